/- The least crowds, walked by hand. No condition. -/
import Derived.Test.YtcflipknnijmdaaCrowdsA
import Derived.Lib.RowBridge
set_option linter.unusedVariables false
set_option linter.unusedSimpArgs false
namespace Go.Proofs.Ytcflipknnijmdaa.Crowds
open Go Go.Proofs Go.Shelf Go.RowKit Go.Lib Go.Proofs.YtcflipknnijmdaaW.PrintWords Go.Proofs.YtcflipknnijmdaaW.PrintLast Go.Proofs.YtcflipknnijmdaaW.PrintMore
attribute [local go_sem] max2_int min2_int max_two min_two max_three min_three max_four min_four

def least (l : List Int) (c : Int) : Bool := !(l.any fun d => (d != c) && (Go.bits .andNot .i64 d c == 0))

set_option maxHeartbeats 8000000 in
set_option maxRecDepth 100000 in
theorem info3 : (Try.prog.info? 3).map (fun i => (i.zero, i.size, i.bytes)) = some (some (.int .i64 0), 1, 8) := by kernel_rfl
theorem w64 {x : Int} (h0 : -9223372036854775808 ≤ x) (h1 : x ≤ 9223372036854775807) : wrap64 x = x := by
  unfold wrap64; omega
theorem R_mk {W : World} {base g cap : Nat} {cur : Array Value} {xs : List Int} (hbase : base ≤ g) (hg : W.heap[g]? = some (.cells cur 3 (0, 0))) (hn : xs.length ≤ cap) (hm : cap ≤ maxLen) (hs : cur.size = cap * 1) (ht : cur.toList.take xs.length = xs.map (Value.int .i64)) :
    Kd.R (Kd.int .i64) 3 W base (fun _ => True) (.slice (some ⟨g, 0, none⟩) xs.length cap) xs := by
  refine ⟨fun _ _ => trivial, xs.map (Value.int .i64), ⟨?_, .inr ⟨g, cap, cur, rfl, hbase, hg, hn, hm, hs, ?_⟩⟩, ?_, fun j p hj => ?_⟩
  · show _ = xs.length * 1; simp
  · show cur.toList.take (xs.length * 1) = _; rw [Nat.mul_one]; exact ht
  · show _ = xs.length * 1; simp
  · show ((xs.map (Value.int .i64)).drop (j * 1)).take 1 = [Value.int .i64 p]
    obtain ⟨hj', e⟩ := List.getElem?_eq_some_iff.1 hj
    rw [Nat.mul_one, ← List.map_drop, List.drop_eq_getElem_cons hj', e]
    simp
set_option maxHeartbeats 8000000 in
set_option maxRecDepth 100000 in
theorem least40 (A : Option Addr) (cap : Nat) (l : List Int) (w : World) (hr : Kd.C (Kd.int .i64) w A l.length l) (hc : l.length ≤ cap) (h64 : l.length ≤ 64) :
    Calls Try.prog 40 #[.slice A l.length cap] w fun e w' => ∃ v, e = .returned v ∧ Kd.R (Kd.int .i64) 3 w' w.heap.size (fun _ => True) v (Lib.compact ((l.filter (least l)).mergeSort fun x y => decide (x ≤ y))) ∧ Below w.heap.size w w' := by
  have HR1 := Aside0.mk hr
  have HC1 := Aside0.mk hc
  have HL := Aside0.mk h64
  clear hr hc h64
  have HB := Aside0.mk (Below.refl w.heap.size w)
  have HO0 : Kd.R (Kd.int .i64) 3 (w.alloc (.cells #[] 3)) w.heap.size (fun _ => True) (.slice (some ⟨w.heap.size, 0, none⟩) 0 0) ([] : List Int) :=
    ⟨fun _ _ => trivial, OwnRow.lit (R := (Kd.int .i64).M (w.alloc (.cells #[] 3)) w.heap.size _) (e := 3) (size := 1) (ps := []) w w.heap.size (inner := []) (Reps.none _ _) (Nat.le_refl _) (by simp)⟩
  have HO := Aside0.mk HO0
  clear HO0
  go_enter Try.func40, Try.ntmps40
  go_wp2
  go_loopg [3, 9] (l.length + 1) (fun kq v3 v9 w' => ∃ (i : Nat), v9 = .int .i64 i ∧ Aside0 (i + kq = l.length + 1 ∧ i ≤ l.length) ∧ Aside0 (Kd.R (Kd.int .i64) 3 w' w.heap.size (fun _ => True) v3 ((l.take i).filter (least l))) ∧ Aside0 (Below w.heap.size w w'))
  case atStart => exact ⟨0, rfl, ⟨⟨by omega, by omega⟩⟩, ⟨HO.out⟩, ⟨(by repeat (first | (with_reducible first | exact HB.out | apply below_alloc | apply pw_below_drewN | apply below_drew1) | exact HB.out))⟩⟩
  case round =>
    clear HO HB
    obtain ⟨i, rfl, HK, HO, HB⟩ := hrel
    cases gk with
    | zero => exact absurd HK.out (by omega)
    | succ k1 =>
      by_cases ci : i < l.length
      · have c8 : decide ((i : Int) < (l.length : Int)) = true := decide_eq_true (by omega)
        have p106 : 0 ≤ (i : Int) := by omega
        have q106 : (i : Int) < (l.length : Int) := by omega
        obtain ⟨ad106, e106, hx106_0⟩ := Kd.at_int HR1.out i p106 q106
        cases e106
        rw [Int.toNat_natCast] at hx106_0
        replace hx106_0 := (HB.out.cell (World.block_lt_of_cell? w _ hx106_0)).trans hx106_0
        replace p106 := eq_true p106
        replace q106 := eq_true q106
        have hsp : ad106.spot = none := by
          have h0 := (HR1.out.2.2 (by omega))
          obtain ⟨ad, e, hcs⟩ := h0
          cases e
          obtain ⟨c, hc1, hc2, hc3⟩ := hcs 0 (l[0]'(by omega)) (List.getElem?_eq_getElem (by omega))
          cases c with
          | nil => cases hc1
          | cons u cs =>
            have := hc3 0 u rfl
            rw [Nat.zero_mul, Addr.add, if_pos rfl] at this
            cases hs : ad106.spot with
            | none => rfl
            | some z => exfalso; rw [World.cell?, hs] at this; revert this; simp only [Option.isSome_some, if_true]; split <;> intro h <;> cases h
        have hcells : ∀ j, j < l.length → wr.cell? ⟨ad106.block, ad106.off + j, none⟩ = some (Value.int .i64 l[j]!) := by
          intro j hj
          obtain ⟨ad, e, hx⟩ := Kd.at_int HR1.out (j : Int) (by omega) (by omega)
          cases e
          rw [Int.toNat_natCast] at hx
          have h2 := (HB.out.cell (World.block_lt_of_cell? w _ hx)).trans hx
          have e1 : ad106.add j = ⟨ad106.block, ad106.off + j, none⟩ := by
            rw [Addr.add]; split
            · rename_i h; subst h; cases ad106; simp_all
            · rfl
          have e2 : rd l (j : Int) = l[j]! := by unfold rd; simp [List.getD_eq_getElem?_getD, List.getElem?_eq_getElem hj]
          rw [← e1, h2, e2]
        have ead : ad106 = ⟨ad106.block, ad106.off, none⟩ := by cases ad106; simp_all
        have hcon := Try.slices_ContainsFunc (Value.int .i64) (fun d => (d != rd l i) && (Go.bits .andNot .i64 d (rd l i) == 0)) 54 #[.pointer (some ⟨wr.heap.size, 0, none⟩)] (enters_of Try.func54 (by kernel_rfl) rfl)
          ad106.block ad106.off l.length cap l (wr.alloc (.cells #[.int .i64 (rd l i)] 3)) (pred54 (rd l i) wr.heap.size _ (by simp) (by simp)) (Nat.le_refl _) (by have := HL.out; omega) (fun j hj => Lib.cell?_alloc_some _ (hcells j hj))
        rw [← ead, List.take_length] at hcon
        have hany : (l.any fun d => (d != rd l i) && (Go.bits .andNot .i64 d (rd l i) == 0)) = !(least l (rd l i)) := by unfold least; rw [Bool.not_not]
        rw [hany] at hcon
        clear hany hcells ead hsp
        have et_ : l.take (i + 1) = l.take i ++ [rd l i] := by
          rw [List.take_succ_eq_append_getElem ci]; unfold rd; simp [List.getD_eq_getElem?_getD, List.getElem?_eq_getElem ci]
        have et := Aside0.mk et_
        clear et_
        cases hL0 : least l (rd l i) with
        | false =>
          rw [hL0] at hcon
          have hL := Aside0.mk hL0
          clear hL0
          go_wp2_with (go_at_call 37; refine hcon.mono ?_; rintro e w' ⟨rfl, q, rfl⟩)
          go_roundg k1
          case measure => have := HK.out; omega
          case rel =>
            refine ⟨i + 1, (by have h9 := HL.out; show Value.int .i64 (wrap64 ((i : Int) + 1)) = _; rw [w64 (by omega) (by omega)]; rfl), ⟨⟨by have := HK.out; omega, by have := HK.out; omega⟩⟩, ⟨?_⟩, ⟨(by repeat (first | (with_reducible first | exact HB.out | apply below_alloc | apply pw_below_drewN | apply below_drew1) | exact HB.out))⟩⟩
            rw [et.out, List.filter_append, List.filter_cons_of_neg (by rw [hL.out]; decide), List.filter_nil, List.append_nil]
            exact (by (with_reducible repeat (first | apply Kd.R_alloc | apply Kd.R_drewN | apply Kd.R_drew)); exact HO.out)
        | true =>
          rw [hL0] at hcon
          have hL := Aside0.mk hL0
          clear hL0
          go_wp2_with (first | (go_at_call 37; refine hcon.mono ?_; rintro e w' ⟨rfl, q, rfl⟩) | ((with_reducible refine gate_builtin (b := .append) (xs := #[.tmp 17, .tmp 19]) rfl ?_); at_builtin; refine Kd.R_append (Kd.int .i64) (w0 := w) w.heap.size rfl (.tmp 17) (.tmp 19) 22 3 (.int .i64 0) 8 rfl Try.underlying22 info3 rfl (by decide) (by omega) u3 ((l.take i).filter (least l)) (rd l i) [.int .i64 (rd l i)] (fun _ => True) (fun _ => False) rfl ?aX ?aP (fun _ hk => hk.elim) ?aF ?aO ?aB ?aS ?aL ?_; (case aX => (show Value.slice (some ⟨wr.heap.size + 1, 0, none⟩) 1 1 = Value.slice (some ⟨((wr.alloc (Obj.cells #[Value.int IntKind.i64 (rd l i)] 3)).drewN q).heap.size, 0, none⟩) 1 1); simp); (case aP => exact rfl); (case aB => exact (by repeat (first | (with_reducible first | exact HB.out | apply below_alloc | apply pw_below_drewN | apply below_drew1) | exact HB.out))); (case aF => exact (fun _ _ => trivial)); (case aO => exact (by (with_reducible repeat (first | apply Kd.R_alloc | apply Kd.R_drewN | apply Kd.R_drew)); exact HO.out)); (case aS => exact (below_size (by repeat (first | (with_reducible first | exact HB.out | apply below_alloc | apply pw_below_drewN | apply below_drew1) | exact HB.out)))); (case aL => have := List.length_filter_le (least l) (l.take i); have := List.length_take_le i l; have := HL.out; omega); intro v114 w19 ho hb hg hat; have n0_ := Aside0.mk (hb); have n1_ := Aside0.mk (ho); clear HB; clear HO; have HB := n0_; have HO := n1_; clear n0_ n1_; clear ho hb hg hat))
          go_roundg k1
          case measure => have := HK.out; omega
          case rel =>
            refine ⟨i + 1, (by have h9 := HL.out; show Value.int .i64 (wrap64 ((i : Int) + 1)) = _; rw [w64 (by omega) (by omega)]; rfl), ⟨⟨by have := HK.out; omega, by have := HK.out; omega⟩⟩, ⟨?_⟩, ⟨(by repeat (first | (with_reducible first | exact HB.out | apply below_alloc | apply pw_below_drewN | apply below_drew1) | exact HB.out))⟩⟩
            rw [et.out, List.filter_append, List.filter_cons_of_pos hL.out, List.filter_nil]
            exact (by (with_reducible repeat (first | apply Kd.R_alloc | apply Kd.R_drewN | apply Kd.R_drew)); exact HO.out)
      · have c8 : decide ((i : Int) < (l.length : Int)) = false := decide_eq_false (by omega)
        have ei : l.take i = l := List.take_of_length_le (by omega)
        rw [ei] at HO
        clear ei
        have hlen := List.length_filter_le (least l) l
        have h64 := HL.out
        obtain ⟨ys, hys⟩ : ∃ ys, l.filter (least l) = ys := ⟨_, rfl⟩
        rw [hys] at HO hlen
        obtain ⟨_, inner, hown, hreps⟩ := HO.out
        rcases hown with ⟨hil, ⟨rfl, h0⟩ | ⟨g, cap1, cur, rfl, hbase, hg, hn, hm, hsz, htk⟩⟩
        · have : ys = [] := List.length_eq_zero_iff.1 h0
          subst this
          have hS := Try.slices_Sort_int_none none 0 wr
          have hC := Try.slices_Compact_int_empty none 0 wr
          go_wp2_with (first | (go_at_call 55; refine hS.mono ?_; rintro e w' ⟨rfl, rfl⟩) | (go_at_call 56; refine hC.mono ?_; rintro e w' ⟨rfl, rfl⟩))
          go_ret
          refine ⟨_, rfl, ?_, HB.out⟩
          rw [hys, List.mergeSort_nil]
          exact Kd.R_nil _ _ _ _ _
        · obtain rfl : inner = ys.map (Value.int .i64) := by
            apply List.ext_getElem?
            intro j
            by_cases hj : j < ys.length
            · have h9 := hreps.2 j ys[j] (List.getElem?_eq_getElem hj)
              obtain h9 : (inner.drop (j * 1)).take 1 = [Value.int .i64 ys[j]] := h9
              rw [Nat.mul_one] at h9
              have h8 := congrArg (fun z => z[0]?) h9
              simp only [List.getElem?_take, List.getElem?_drop] at h8
              simp at h8
              rw [h8]; simp [hj]
            · rw [List.getElem?_eq_none (by rw [hil]; show ys.length * 1 ≤ j; omega), List.getElem?_eq_none (by simp; omega)]
          rw [show ((Kd.int .i64).sz) = 1 from rfl] at hsz htk hil
          rw [Nat.mul_one] at htk
          obtain ⟨zs, hzs⟩ : ∃ zs, (ys.mergeSort fun x y => decide (x ≤ y)) = zs := ⟨_, rfl⟩
          have hzl : zs.length = ys.length := by rw [← hzs, List.length_mergeSort]
          have hS := Try.slices_Sort_int g 0 cap1 ys wr (holds_of_blockI hg htk) (Array.getElem?_eq_some_iff.1 hg).1 (by omega)
          rw [hzs] at hS
          have hC : ∀ n os, Calls Try.prog 56 #[.slice (some ⟨g, 0, none⟩) ys.length cap1] (Sort.grow (Sort.putRow (Value.int .i64) (Sort.ahead wr n) g 0 zs.toArray) os) fun e w' => e = .returned (.slice (some ⟨g, 0, none⟩) (Lib.compact zs).length cap1) ∧ ∃ q, w' = Sort.putRow (Value.int .i64) (Sort.ahead (Sort.grow (Sort.putRow (Value.int .i64) (Sort.ahead wr n) g 0 zs.toArray) os) q) g 0 (Lib.compact zs ++ List.replicate (zs.length - (Lib.compact zs).length) 0).toArray := by
            intro n os
            have hown2 := ownsRow_sortedI (n := n) (os := os) hzl hbase hg hn hm hsz
            rcases hown2.2 with ⟨h0, _⟩ | ⟨g', cap', cur', hv, _, hg', _, _, _, htk'⟩
            · cases h0
            cases hv
            have := Try.slices_Compact_int g 0 cap1 zs _ (holds_of_blockI hg' (by rw [Nat.mul_one] at htk'; rw [hzl]; exact htk')) (by omega) (by omega)
            rw [hzl] at this ⊢
            exact this
          go_wp2_with (first | (go_at_call 55; refine hS.mono ?_; rintro e w' ⟨rfl, n, os, rfl⟩) | (go_at_call 56; refine (hC _ _).mono ?_; rintro e w' ⟨rfl, q, rfl⟩))
          go_ret
          have hkl : (Lib.compact zs).length ≤ ys.length := by
            have : (Lib.compact zs).length ≤ zs.length := Lib.compact_length_le zs
            omega
          have hg2 := heap_sortedI (n := n) (os := os) (w := wr) (g := g) zs.toArray hg
          have hg3 := heap_sortedI (n := q) (os := #[]) (g := g) (Lib.compact zs ++ List.replicate (ys.length - (Lib.compact zs).length) 0).toArray hg2
          have hsz2 : (Sort.putCells (Value.int .i64) 0 zs.toArray cur).size = cap1 * 1 := by simp [Sort.putCells, hsz]
          have htt := take_putCellsI (Sort.putCells (Value.int .i64) 0 zs.toArray cur) (Lib.compact zs ++ List.replicate (ys.length - (Lib.compact zs).length) 0) (by rw [hsz2, List.length_append, List.length_replicate]; omega)
          have eg : ∀ W : World, Sort.grow W #[] = W := fun W => by unfold Sort.grow; simp
          rw [eg] at hg3
          have hb1 := HB.out.grown (grownBy_sortedI (w := wr) (g := g) (n := n) (os := os) zs.toArray) HB.out.size (fun k hk => by cases hk; exact hbase)
          have hb2 := hb1.grown (grownBy_sortedI (g := g) (n := q) (os := #[]) (Lib.compact zs ++ List.replicate (ys.length - (Lib.compact zs).length) 0).toArray) hb1.size (fun k hk => by cases hk; exact hbase)
          rw [eg] at hb2
          rw [hys, hzs]
          refine ⟨_, rfl, ?_, hb2⟩
          refine R_mk hbase hg3 (by omega) hm ?_ ?_
          · simp only [Sort.putCells] at hsz2 ⊢
            simp [hsz]
          · have h7 := congrArg (fun z => z.take (Lib.compact zs).length) htt
            simp only [List.take_take, List.map_append, List.length_append, List.length_replicate] at h7
            rw [Nat.min_eq_left (by omega), List.take_left' (by simp)] at h7
            exact h7
end Go.Proofs.Ytcflipknnijmdaa.Crowds
