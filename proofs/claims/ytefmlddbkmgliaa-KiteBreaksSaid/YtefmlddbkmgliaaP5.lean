/- A part of the proof; the last text states what is proved. -/
import Derived.Test.YtefmlddbkmgliaaP4
import Derived.Test.YtefmlddbkmgliaaProg
import Derived.Shelf.SlSortCmp.NoneTotal
import Derived.Shelf.SlicesG.Cmp
import Derived.Test.YtefmlddbkmgliaaRows
import Derived.ProofKit
import Derived.DataShut
set_option linter.unusedVariables false
set_option linter.unusedSimpArgs false
set_option maxRecDepth 100000
set_option maxHeartbeats 4000000
namespace Go.Abs
open Go.Sort Go.Proofs Go.Shelf Go.Lib Go.RowKit
def oneF (e : TypeId) (τ : Nat) (l : List Int) : Nat → Option O := fun s => if s = τ then some (.arr e 1 (some false) (intRows l)) else none
theorem d43 (τ : Nat) (l : List Int) (hne : l ≠ []) (hl : l.length ≤ 9223372036854775807) : SpecS Try.prog 43 [.k (.own τ)] (oneI 3 τ l) [τ] (fun r o' => r = .tup [] ∧ o' = oneF 3 τ l.reverse) := by
  refine ⟨callable_at (by kernel_rfl), fun w0 Z0 κ w vs hsz hi => ?_⟩
  obtain ⟨v, rfl⟩ := vs_one hsz
  have ho : (oneI 3 τ l) τ = some (.arr 3 1 none (intRows l)) := by simp [oneI]
  have hno : ∀ s, s ≠ τ → oneI 3 τ l s = none := fun s hs => by simp [oneI, hs]
  have hob := hi.objs τ _ ho
  have htm : VRep w (Zof w0 Z0 κ (oneI 3 τ l) w) κ (oneI 3 τ l) (.k (.own τ)) v := by simpa using hi.tmps 0
  rcases hob with ⟨hκ, hrows, _⟩ | ⟨b, cur, cap, hκ, hheap, h0, hcs, hlen, hcap, _, hall, hrr⟩
  · exact absurd (by simpa [intRows] using hrows) hne
  · obtain ⟨cap', hv, hcap'⟩ : ∃ cap', v = .slice (some ⟨b, 0, none⟩) l.length cap' ∧ cur.size = cap' * 1 := by
      rcases htm.2 3 1 none _ ho with ⟨hn, _⟩ | ⟨b', cur', cap', hb, hh, hc2, hv⟩
      · rw [hκ] at hn; cases hn
      · rw [hκ] at hb; cases hb
        rw [hheap] at hh; cases hh
        exact ⟨cap', by simpa [intRows] using hv, hc2⟩
    subst hv
    have hlt : b < w.heap.size := heap_lt hheap
    have hH := holds_of_blockI hheap (cells_of_rep hrr)
    refine (Any.slices_Reverse_int Try.laysReverse b 0 cap' l w hH hl).mono ?_
    rintro ex w' ⟨rfl, n, rfl⟩
    have hls : l.reverse.length = l.length := List.length_reverse
    have hle : l.length ≤ cur.size := by
      have : (intRows l).length = l.length := by simp [intRows]
      rw [this] at hlen; omega
    have hh2 := heap_sortedI (w := w) (n := n) (os := #[]) l.reverse.toArray hheap
    have hg := grownBy_sortedI (w := w) (g := b) (n := n) (os := #[]) l.reverse.toArray
    rw [grow_empty] at hh2 hg
    have htk := take_putCellsI cur l.reverse (by omega)
    have hsz2 : (putCells (Value.int .i64) 0 l.reverse.toArray cur).size = cur.size := by simp [putCells]
    obtain ⟨g1, g2, g3, g4, g5⟩ := hg
    have hI := hi.moveG (τ := τ) (d := 0) (ob := .arr 3 1 (some false) (intRows l.reverse)) (v := .tup []) (u := .tuple #[]) (bo := some b) (w' := putRow (Value.int .i64) (Sort.ahead w n) b 0 l.reverse.toArray) ho (by simp) g1 g2 g3 g4
      (fun k hk hne => g5 k hk (by rw [hκ] at hne; exact fun h => hne (by cases h; rfl))) (fun b' hb => .inr (by cases hb; exact hκ))
      (fun Z _ => .inr ⟨b, _, cap, by simp, hh2, by omega, by rw [hsz2]; exact hcs, by simp only [intRows, List.length_map, hls]; simpa [intRows] using hlen, hcap, by simp, rows_len _, rep_of_cells (by rw [hls]; rw [hls] at htk; exact htk)⟩) ⟨#[], rfl, rfl, trivial⟩
    rw [state_eq _ _ hno] at hI
    refine ⟨.tuple #[], _, .tup [], _, rfl, ⟨rfl, rfl⟩, ?_, hI⟩
    intro s hs
    simp only [List.mem_singleton] at hs
    subst hs
    refine ⟨by simp [oneI, oneF, Like, intRows, hls], by simp [hκ], fun _ b' hb cur0 e0 f0 hc0 => ?_⟩
    rw [hκ] at hb; cases hb
    rw [hheap] at hc0; cases hc0
    exact ⟨_, hh2, hsz2⟩
theorem call_rev {P : Program} {f d τ : Nat} {xs : List AX} {K : KK} {ts : TS} {os : OS} {nl : Option Bool} {X : Prop} (l : List Int) (hs : SpecS P f [.k (.own τ)] (oneI 3 τ l) [τ] (fun r o' => r = .tup [] ∧ o' = oneF 3 τ l.reverse)) (ho : lookO τ os = some (.arr 3 1 nl (intRows l)))
    (hk : K (insT d (.tup []) ts) (insO τ (.arr 3 1 (some false) (intRows l.reverse)) os)) : X ∨ callSF P f [.k (.own τ)] xs K (some d) ts os := by
  refine .inr (.inl ?_)
  refine ⟨[τ], [τ], [], fun r o' => r = .tup [] ∧ o' = oneF 3 τ l.reverse, by simp [V.within, Abs.K.within], rfl, ?_, fun s hs => .inl hs, ?_, ?_⟩
  · intro s hs ob hob
    simp only [List.mem_singleton] at hs
    subst hs
    rw [ho] at hob; cases hob; rfl
  · rw [tab_one ho]; exact hs
  · rintro r o' ⟨rfl, rfl⟩
    refine ⟨fun s hs => by simp at hs; simp [oneF, hs], rfl, fun s ob h => ?_, ?_⟩
    · unfold oneF at h
      split at h
      · cases h; rfl
      · cases h
    · have e : (mkS ts os).back [τ] [] (oneF 3 τ l.reverse) = mkS ts (insO τ (.arr 3 1 (some false) (intRows l.reverse)) os) := by
        simp only [St.back, mkS, St.mk.injEq]
        refine ⟨by funext s; rfl, ?_⟩
        funext s
        rw [lookO_ins]
        by_cases h : s = τ
        · subst h; simp [oneF]
        · simp only [List.contains_cons, List.contains_nil, Bool.or_false, beq_iff_eq, h, if_false]
          cases lookO s os <;> rfl
      show onS K (((mkS ts os).back [τ] [] (oneF 3 τ l.reverse)).put d (.tup []))
      rw [e, mkS_put]; exact onS_mk hk
theorem upG_eq {l : List Dr} {a i : Int} {ch : List Int} (m : Nat) : upG l a (m + 1) i ch = if i = -1 then [] else if (dat l i).d = a then (ch ++ [i]).reverse else upG l a m (dat l i).c (ch ++ [i]) := rfl
theorem d31 (l : List Dr) (hR : RightD l) (x : Int) (h0 : 0 ≤ x) (hx : x < l.length) : Spec Try.prog 31 [lst 6 (drs l), .int .i64 x] (fun r => r = .k (.newl 3 1 (some (decide (closG l x = []))) (ints (closG l x)))) := by
  refine Spec.of_awlX hf31 okf31 (by simp) fun S hS => ?_
  have hat := drs_dat h0 hx
  have hcx := hR.cov x h0 hx
  have hll := hR.len
  simp only [h0, hx, hat, drs_len, normRows_drs, Qs, forall_eq, bne_iff_ne, ne_eq, List.mem_cons, Nat.reduceAdd, Nat.reduceEqDiff, Nat.reduceLT, Nat.reduceBEq, List.not_mem_nil, uu f31.eq_1, uu f31b20.eq_1, vv f31r21.eq_1, uu f31b22.eq_1, uu f31b23.eq_1, vv f31r24.eq_1, uu f31b25.eq_1, vv f31r26.eq_1, uu f31b27.eq_1]
  rw [uu f31l19.eq_1]
  refine awl_loop (fun z : Nat × Int × List Int => [(0, lst 6 (drs l)), (1, .int .i64 x), (5, .k (.own 8)), (6, .int .i64 z.2.1)]) (fun z => [(8, .arr 3 1 (some false) (ints z.2.2))])
    (fun z => -1 ≤ z.2.1 ∧ z.2.1 < z.1 ∧ z.1 ≤ l.length ∧ z.2.2.length + z.1 ≤ 200 ∧ upG l (dat l x).a z.1 z.2.1 z.2.2 = closG l x) (fun z => z.1) (l.length, (dat l x).c, [x]) rfl rfl ⟨by show -1 ≤ (dat l x).c; omega, by show (dat l x).c < _; omega, Nat.le_refl _, by simp; omega, rfl⟩ ?_
  rintro ⟨m, i, ch⟩ ⟨hi0, hi1, hm, hch, hu⟩
  simp only [] at hi0 hi1 hm hch hu
  by_cases hi : i = -1
  · have hb : (i != -1) = false := by simp [hi]
    have e : closG l x = [] := by
      rw [← hu, hi]
      cases m with
      | zero => rfl
      | succ m => rw [upG_eq, if_pos rfl]
    rw [e] at hS
    simp only [hb, endKX_ret, endKX_normal, Qs, if_true, bne_iff_ne, ne_eq, Int.reduceNeg, List.nodup_nil, List.nodup_cons, Nat.reduceEqDiff, Nat.reduceBEq, List.not_mem_nil, vv f31r1.eq_1, uu f31b2.eq_1, uu f31b15.eq_1, vv f31r16.eq_1, uu f31b17.eq_1, uu f31b18.eq_1]
    exact hS
  · have hb : (i != -1) = true := by simp [hi]
    have i0 : 0 ≤ i := by omega
    have i1 : i < (l.length : Int) := by omega
    have hai := drs_dat i0 i1
    have hci := hR.cov i i0 i1
    obtain ⟨m, rfl⟩ : ∃ m', m = m' + 1 := ⟨m - 1, by omega⟩
    rw [upG_eq, if_neg hi] at hu
    have q1 : ch.length + 1 ≤ 9223372036854775807 := by omega
    have q2 : (ch.length + 1) * 8 ≤ 140737488355328 := by omega
    by_cases hd : (dat l i).d = (dat l x).a
    · have hdb : ((dat l i).d == (dat l x).a) = true := by simpa using hd
      rw [if_pos hd] at hu
      simp only [hb, hdb, i0, i1, h0, hx, hai, hat, q1, q2, drs_len, normRows_drs, ints_len, ints_snoc, Qs, if_true, if_false, forall_eq, bne_iff_ne, ne_eq, Int.reduceNeg, List.mem_cons, Nat.reduceAdd, Nat.reduceEqDiff, Nat.reduceLeDiff, Nat.reduceLT, Nat.reduceBEq, List.not_mem_nil, vv f31r3.eq_1, vv f31r6.eq_1, uu f31b7.eq_1, uu f31b8.eq_1, vv f31r9.eq_1, uu f31b10.eq_1, vv f31r11.eq_1, uu f31b12.eq_1, uu f31b13.eq_1, uu f31b14.eq_1, uu f31b15.eq_1, vv f31r16.eq_1, uu f31b17.eq_1, uu f31b18.eq_1]
      refine call_rev (ch ++ [i]) (d43 8 (ch ++ [i]) (by simp) (by simp; omega)) rfl ?_
      rw [hu]
      simp only [endKX_ret, endKX_normal, Qs, if_true, Int.reduceNeg, List.nodup_nil, List.nodup_cons, Nat.reduceBEq, List.not_mem_nil, vv f31r4.eq_1, uu f31b5.eq_1]
      have : closG l x ≠ [] := by rw [← hu]; simp
      rw [decide_eq_false this] at hS
      exact hS
    · have hdb : ((dat l i).d == (dat l x).a) = false := by simpa using hd
      rw [if_neg hd] at hu
      simp only [hb, hdb, i0, i1, h0, hx, hai, hat, q1, q2, drs_len, normRows_drs, ints_len, ints_snoc, Qs, if_true, if_false, forall_eq, bne_iff_ne, ne_eq, Int.reduceNeg, List.mem_cons, Nat.reduceAdd, Nat.reduceEqDiff, Nat.reduceLeDiff, Nat.reduceLT, Nat.reduceBEq, List.not_mem_nil, vv f31r3.eq_1, uu f31b8.eq_1, vv f31r9.eq_1, uu f31b10.eq_1, vv f31r11.eq_1, uu f31b12.eq_1, uu f31b13.eq_1, uu f31b14.eq_1, uu f31b15.eq_1, vv f31r16.eq_1, uu f31b17.eq_1, uu f31b18.eq_1]
      exact Next.intro (m, (dat l i).c, ch ++ [i]) rfl rfl ⟨by show -1 ≤ (dat l i).c; omega, by show (dat l i).c < _; omega, by omega, by simp; omega, hu⟩ (Nat.lt_succ_self m)
end Go.Abs


set_option maxRecDepth 100000
namespace Go.Proofs
open Go.Shelf Go.RowKit Go.Lib Go.Sort
def Try.laysSortF_ren : Go.Shelf.Ren :=
  {
    f := fun x =>
      match x with
      | 6 => 32
      | 15 => 45
      | 14 => 44
      | 28 => 63
      | 29 => 64
      | 20 => 55
      | 21 => 56
      | 22 => 57
      | 23 => 58
      | 24 => 59
      | 25 => 60
      | 26 => 61
      | 27 => 62
      | 46 => 68
      | 47 => 69
      | 48 => 70
      | 49 => 71
      | 50 => 72
      | 57 => 74
      | n => n,
    t := fun x =>
      match x with
      | 22 => 32
      | 24 => 25
      | 25 => 53
      | 3 => 3
      | 39 => 64
      | 0 => 0
      | 53 => 81
      | 55 => 83
      | 4 => 4
      | 46 => 74
      | 45 => 73
      | 50 => 78
      | 5 => 5
      | 9 => 9
      | 66 => 85
      | 70 => 89
      | 76 => 92
      | 77 => 93
      | n => n,
    g := fun n => n }
theorem Try.laysSortF : SlLaysF0.n6 Try.prog Try.laysSortF_ren :=
  { mixed := by kernel_rfl,
    f6 :=
      Exists.intro "slices.SortFunc[[]allonge/api.Kite,allonge/api.Kite]"
        ⟨of_decide_eq_true (id (Eq.refl true)),
          Eq.trans Try.func32
            (congrArg some
              (Eq.refl
                { SlBodyF.n6 Try.laysSortF_ren with name := "slices.SortFunc[[]allonge/api.Kite,allonge/api.Kite]" }))⟩,
    f14 :=
      Exists.intro "slices.pdqsortCmpFunc[allonge/api.Kite]"
        ⟨of_decide_eq_true (id (Eq.refl true)),
          Eq.trans Try.func44
            (congrArg some
              (Eq.refl
                { SlBodyF.n14 Try.laysSortF_ren with name := "slices.pdqsortCmpFunc[allonge/api.Kite]" }))⟩,
    f15 := Eq.trans Try.func45 (congrArg some (Eq.refl (SlBodyF.n15 Try.laysSortF_ren))),
    f20 :=
      Exists.intro "slices.insertionSortCmpFunc[allonge/api.Kite]"
        ⟨of_decide_eq_true (id (Eq.refl true)),
          Eq.trans Try.func55
            (congrArg some
              (Eq.refl
                { SlBodyF.n20 Try.laysSortF_ren with name := "slices.insertionSortCmpFunc[allonge/api.Kite]" }))⟩,
    f21 :=
      Exists.intro "slices.heapSortCmpFunc[allonge/api.Kite]"
        ⟨of_decide_eq_true (id (Eq.refl true)),
          Eq.trans Try.func56
            (congrArg some
              (Eq.refl
                { SlBodyF.n21 Try.laysSortF_ren with name := "slices.heapSortCmpFunc[allonge/api.Kite]" }))⟩,
    f22 :=
      Exists.intro "slices.breakPatternsCmpFunc[allonge/api.Kite]"
        ⟨of_decide_eq_true (id (Eq.refl true)),
          Eq.trans Try.func57
            (congrArg some
              (Eq.refl
                { SlBodyF.n22 Try.laysSortF_ren with name := "slices.breakPatternsCmpFunc[allonge/api.Kite]" }))⟩,
    f23 :=
      Exists.intro "slices.choosePivotCmpFunc[allonge/api.Kite]"
        ⟨of_decide_eq_true (id (Eq.refl true)),
          Eq.trans Try.func58
            (congrArg some
              (Eq.refl
                { SlBodyF.n23 Try.laysSortF_ren with name := "slices.choosePivotCmpFunc[allonge/api.Kite]" }))⟩,
    f24 :=
      Exists.intro "slices.reverseRangeCmpFunc[allonge/api.Kite]"
        ⟨of_decide_eq_true (id (Eq.refl true)),
          Eq.trans Try.func59
            (congrArg some
              (Eq.refl
                { SlBodyF.n24 Try.laysSortF_ren with name := "slices.reverseRangeCmpFunc[allonge/api.Kite]" }))⟩,
    f25 :=
      Exists.intro "slices.partialInsertionSortCmpFunc[allonge/api.Kite]"
        ⟨of_decide_eq_true (id (Eq.refl true)),
          Eq.trans Try.func60
            (congrArg some
              (Eq.refl
                { SlBodyF.n25 Try.laysSortF_ren with name := "slices.partialInsertionSortCmpFunc[allonge/api.Kite]" }))⟩,
    f26 :=
      Exists.intro "slices.partitionEqualCmpFunc[allonge/api.Kite]"
        ⟨of_decide_eq_true (id (Eq.refl true)),
          Eq.trans Try.func61
            (congrArg some
              (Eq.refl
                { SlBodyF.n26 Try.laysSortF_ren with name := "slices.partitionEqualCmpFunc[allonge/api.Kite]" }))⟩,
    f27 :=
      Exists.intro "slices.partitionCmpFunc[allonge/api.Kite]"
        ⟨of_decide_eq_true (id (Eq.refl true)),
          Eq.trans Try.func62
            (congrArg some
              (Eq.refl
                { SlBodyF.n27 Try.laysSortF_ren with name := "slices.partitionCmpFunc[allonge/api.Kite]" }))⟩,
    f28 := Eq.trans Try.func63 (congrArg some (Eq.refl (SlBodyF.n28 Try.laysSortF_ren))),
    f29 := Eq.trans Try.func64 (congrArg some (Eq.refl (SlBodyF.n29 Try.laysSortF_ren))),
    f46 :=
      Exists.intro "slices.siftDownCmpFunc[allonge/api.Kite]"
        ⟨of_decide_eq_true (id (Eq.refl true)),
          Eq.trans Try.func68
            (congrArg some
              (Eq.refl
                { SlBodyF.n46 Try.laysSortF_ren with name := "slices.siftDownCmpFunc[allonge/api.Kite]" }))⟩,
    f47 := Eq.trans Try.func69 (congrArg some (Eq.refl (SlBodyF.n47 Try.laysSortF_ren))),
    f48 := Eq.trans Try.func70 (congrArg some (Eq.refl (SlBodyF.n48 Try.laysSortF_ren))),
    f49 :=
      Exists.intro "slices.medianAdjacentCmpFunc[allonge/api.Kite]"
        ⟨of_decide_eq_true (id (Eq.refl true)),
          Eq.trans Try.func71
            (congrArg some
              (Eq.refl
                { SlBodyF.n49 Try.laysSortF_ren with name := "slices.medianAdjacentCmpFunc[allonge/api.Kite]" }))⟩,
    f50 :=
      Exists.intro "slices.medianCmpFunc[allonge/api.Kite]"
        ⟨of_decide_eq_true (id (Eq.refl true)),
          Eq.trans Try.func72
            (congrArg some
              (Eq.refl
                { SlBodyF.n50 Try.laysSortF_ren with name := "slices.medianCmpFunc[allonge/api.Kite]" }))⟩,
    f57 :=
      Exists.intro "slices.order2CmpFunc[allonge/api.Kite]"
        ⟨of_decide_eq_true (id (Eq.refl true)),
          Eq.trans Try.func74
            (congrArg some
              (Eq.refl
                { SlBodyF.n57 Try.laysSortF_ren with name := "slices.order2CmpFunc[allonge/api.Kite]" }))⟩,
    t0 := Try.underlying0, a0 := Try.isAgg0, z0 := Try.sizeOf0, v0 := Try.zeroValue0, t3 := Try.underlying3,
    a3 := Try.isAgg3, z3 := Try.sizeOf3, v3 := Try.zeroValue3, t4 := Try.underlying4, a4 := Try.isAgg4, z4 := Try.sizeOf4,
    v4 := Try.zeroValue4, t5 := Try.underlying5, a5 := Try.isAgg5, z5 := Try.sizeOf5, v5 := Try.zeroValue5,
    t9 := Try.underlying9, a9 := Try.isAgg9, z9 := Try.sizeOf9, v9 := Try.zeroValue9, t22 := Try.underlying32,
    a22 := Try.isAgg32, z22 := Try.sizeOf32, v22 := Try.zeroValue32, t25 := Try.underlying53, a25 := Try.isAgg53,
    z25 := Try.sizeOf53, v25 := Try.zeroValue53, t39 := Try.underlying64, a39 := Try.isAgg64, z39 := Try.sizeOf64,
    v39 := Try.zeroValue64, t45 := Try.underlying73, a45 := Try.isAgg73, z45 := Try.sizeOf73, v45 := Try.zeroValue73,
    t46 := Try.underlying74, a46 := Try.isAgg74, z46 := Try.sizeOf74, v46 := Try.zeroValue74, t50 := Try.underlying78,
    a50 := Try.isAgg78, z50 := Try.sizeOf78, v50 := Try.zeroValue78, t53 := Try.underlying81, a53 := Try.isAgg81,
    z53 := Try.sizeOf81, v53 := Try.zeroValue81, t55 := Try.underlying83, a55 := Try.isAgg83, z55 := Try.sizeOf83,
    v55 := Try.zeroValue83, t66 := Try.underlying85, a66 := Try.isAgg85, z66 := Try.sizeOf85, v66 := Try.zeroValue85,
    t70 := Try.underlying89, a70 := Try.isAgg89, z70 := Try.sizeOf89, v70 := Try.zeroValue89, t76 := Try.underlying92,
    a76 := Try.isAgg92, z76 := Try.sizeOf92, v76 := Try.zeroValue92, t77 := Try.underlying93, a77 := Try.isAgg93,
    z77 := Try.sizeOf93, v77 := Try.zeroValue93 }
def Try.laysCmp_ren : Go.Shelf.Ren :=
  {
    f := fun x =>
      match x with
      | 5 => 46
      | 7 => 65
      | n => n,
    t := fun x =>
      match x with
      | 22 => 3
      | 3 => 3
      | 4 => 4
      | n => n,
    g := fun n => n }
theorem Try.laysCmp : SlLaysC2.n5 Try.prog Try.laysCmp_ren :=
  { mixed := by kernel_rfl,
    f5 :=
      Exists.intro "cmp.Compare[int]"
        ⟨of_decide_eq_true (id (Eq.refl true)),
          Eq.trans Try.func46
            (congrArg some
              (Eq.refl
                { SlBodyC2.n5 Try.laysCmp_ren with name := "cmp.Compare[int]" }))⟩,
    f7 :=
      Exists.intro "cmp.isNaN[int]"
        ⟨of_decide_eq_true (id (Eq.refl true)),
          Eq.trans Try.func65
            (congrArg some
              (Eq.refl
                { SlBodyC2.n7 Try.laysCmp_ren with name := "cmp.isNaN[int]" }))⟩,
    t3 := Try.underlying3, a3 := Try.isAgg3, z3 := Try.sizeOf3, v3 := Try.zeroValue3, t4 := Try.underlying4,
    a4 := Try.isAgg4, z4 := Try.sizeOf4, v4 := Try.zeroValue4, t22 := Try.underlying3, a22 := Try.isAgg3,
    z22 := Try.sizeOf3, v22 := Try.zeroValue3 }
end Go.Proofs


set_option maxRecDepth 100000
set_option maxHeartbeats 4000000
namespace Go.Abs
def cmpL : List Int → List Int → Int
  | [], [] => 0
  | [], _ :: _ => -1
  | _ :: _, [] => 1
  | a :: x, b :: y => if Lib.compareInt a b ≠ 0 then Lib.compareInt a b else cmpL x y
def cmpKi (a b : List Int) : Int := if (a.length : Int) - b.length ≠ 0 then (a.length : Int) - b.length else cmpL a b
theorem compareInt_cases (a b : Int) : (a < b ∧ Lib.compareInt a b = -1) ∨ (a = b ∧ Lib.compareInt a b = 0) ∨ (b < a ∧ Lib.compareInt a b = 1) := by
  unfold Lib.compareInt
  rcases Int.lt_trichotomy a b with h | h | h
  · exact .inl ⟨h, by simp [h]⟩
  · exact .inr (.inl ⟨h, by subst h; simp⟩)
  · refine .inr (.inr ⟨h, ?_⟩)
    rw [if_neg (by omega), if_pos h]
theorem cmpL_bef : ∀ x y : List Int, x.length = y.length → (cmpL x y < 0 ↔ bef x y = true)
  | [], [], _ => by simp [cmpL, bef]
  | [], _ :: _, h => by simp at h
  | _ :: _, [], h => by simp at h
  | a :: x, b :: y, h => by
    rw [cmpL, bef]
    rcases compareInt_cases a b with ⟨h1, h2⟩ | ⟨h1, h2⟩ | ⟨h1, h2⟩
    · rw [h2, if_pos (by decide), if_pos (by omega)]; simp [h1]
    · rw [h2, if_neg (by decide), if_neg (by simp [h1])]
      exact cmpL_bef x y (by simpa using h)
    · rw [h2, if_pos (by decide), if_pos (by omega)]; simp; omega
theorem cmpKi_lt (x y : Ki) : decide (cmpKi x.dr y.dr < 0) = ltK x y := by
  unfold cmpKi ltK
  by_cases h : x.dr.length = y.dr.length
  · rw [if_neg (by omega), Bool.eq_iff_iff, decide_eq_true_eq, cmpL_bef _ _ h]
    simp [h]
  · rw [if_pos (by omega), Bool.eq_iff_iff, decide_eq_true_eq]
    simp [h]; omega
end Go.Abs
namespace Go.Proofs
open Go.Shelf Go.RowKit Go.Lib Go.Sort Go.Abs
theorem aside5 {p : Prop} (h : p) : Aside p := h
def IntsAt (w : World) (p : Option Addr) (b o : Nat) (x : List Int) : Prop := (x.length ≠ 0 → p = some ⟨b, o, none⟩) ∧ ∀ j, j < x.length → w.cell? ⟨b, o + j, none⟩ = some (.int .i64 (x.getD j 0))
theorem compare34 (b1 o1 c1 b2 o2 c2 : Nat) (p1 p2 : Option Addr) (x y : List Int) (w : World) (hx : x.length ≤ 1000) (hy : y.length ≤ 1000) (I : Aside (IntsAt w p1 b1 o1 x ∧ IntsAt w p2 b2 o2 y)) :
    Calls Try.prog 34 #[.slice p1 x.length c1, .slice p2 y.length c2] w fun e w' => e = .returned (.int .i64 (cmpL x y)) ∧ w' = w := by
  have hc46 : ∀ a b W, Calls Try.prog 46 #[.int .i64 a, .int .i64 b] W fun e w' => e = .returned (.int .i64 (Lib.compareInt a b)) ∧ w' = W := fun a b W => AnyG.cmp_Compare_int Try.laysCmp a b W
  go_enter Try.func34, Try.ntmps34
  go_wp2
  go_loopg [11] x.length (fun g i wr => ∃ k, k ≤ x.length ∧ g = x.length - k ∧ i = .int .i64 (k : Nat) ∧ wr = w ∧ k ≤ y.length ∧ cmpL (x.drop k) (y.drop k) = cmpL x y)
  case atStart => exact ⟨0, Nat.zero_le _, rfl, rfl, rfl, Nat.zero_le _, rfl⟩
  case round =>
    obtain ⟨k, hk, rfl, rfl, rfl, hky, hR⟩ := hrel
    by_cases hlt : k < x.length
    · have hlt' : (k : Int) < x.length := by omega
      obtain rfl := I.out.1.1 (by omega)
      have f1 := I.out.1.2 k hlt
      by_cases hyt : k < y.length
      · have hyt' : (k : Int) < y.length := by omega
        obtain rfl := I.out.2.1 (by omega)
        have f2 := I.out.2.2 k hyt
        have e1 : x.getD k 0 = x[k] := by simp [List.getD, hlt]
        have e2 : y.getD k 0 = y[k] := by simp [List.getD, hyt]
        rw [List.drop_eq_getElem_cons hlt, List.drop_eq_getElem_cons hyt, cmpL, ← e1, ← e2] at hR
        generalize x.getD k 0 = a at f1 hR
        generalize y.getD k 0 = b at f2 hR
        have c46 := hc46 a b
        generalize Lib.compareInt a b = r at c46 hR
        have R := aside5 hR
        clear hR e1 e2 hc46
        by_cases hr : r = 0
        · subst hr
          go_wp2_with (go_at_call 46; refine (c46 _).mono ?_; rintro e w1 ⟨rfl, rfl⟩)
          have wk : IntKind.i64.wrap ((k : Int) + 1) = ((k + 1 : Nat) : Int) := by rw [Go.Abs.wrap_in (by omega) (by omega)]; omega
          go_roundg (x.length - (k + 1))
          case rel => exact ⟨k + 1, hlt, rfl, by go_num, rfl, hyt, by have := R.out; rwa [if_neg (by simp)] at this⟩
          case measure => omega
        · go_wp2_with (go_at_call 46; refine (c46 _).mono ?_; rintro e w1 ⟨rfl, rfl⟩)
          go_ret
          have := R.out
          rw [if_pos hr] at this
          exact ⟨by rw [← this]; rfl, rfl⟩
      · have hyt' : (k : Int) ≥ y.length := by omega
        have e1 : y.drop k = [] := List.drop_of_length_le (by omega)
        rw [e1, List.drop_eq_getElem_cons hlt, cmpL] at hR
        have R := aside5 hR
        clear hR e1 hc46
        go_wp2
        go_ret
        exact ⟨by rw [← R.out]; rfl, rfl⟩
    · obtain rfl : k = x.length := by omega
      rw [List.drop_length] at hR
      have R := aside5 hR
      clear hR hc46
      by_cases hyt : x.length < y.length
      · have hyt' : (x.length : Int) < y.length := by omega
        go_wp2
        go_ret
        have := R.out
        rw [List.drop_eq_getElem_cons hyt, cmpL] at this
        exact ⟨by rw [← this]; rfl, rfl⟩
      · have hyt' : ¬ (x.length : Int) < y.length := by omega
        go_wp2
        go_ret
        have := R.out
        rw [List.drop_of_length_le (by omega), cmpL] at this
        exact ⟨by rw [← this]; rfl, rfl⟩
theorem closure33 (b1 o1 c1 b2 o2 c2 : Nat) (p1 p2 : Option Addr) (x y : List Int) (f1 f2 m1 m2 : Value) (w : World) (hx : x.length ≤ 1000) (hy : y.length ≤ 1000) (hf1 : f1.oneCell' = true) (hf2 : f2.oneCell' = true) (hm1 : m1.oneCell' = true) (hm2 : m2.oneCell' = true) (I : Aside (IntsAt w p1 b1 o1 x ∧ IntsAt w p2 b2 o2 y ∧ (x.length ≠ 0 → b1 < w.heap.size) ∧ (y.length ≠ 0 → b2 < w.heap.size))) :
    Calls Try.prog 33 #[.agg #[.slice p1 x.length c1, f1, m1], .agg #[.slice p2 y.length c2, f2, m2]] w fun e w' => e = .returned (.int .i64 (cmpKi x y)) ∧ ∃ q os', w' = grow (w.drewN q) os' := by
  have c34 := fun W (hW : Aside (IntsAt W p1 b1 o1 x ∧ IntsAt W p2 b2 o2 y)) => compare34 b1 o1 c1 b2 o2 c2 p1 p2 x y W hx hy hW
  by_cases hd : (x.length : Int) - y.length = 0
  · have hd' : ((x.length : Int) - y.length != 0) = false := by simp [hd]
    have hW : ∀ o1' o2', Aside (IntsAt ((w.alloc o1').alloc o2') p1 b1 o1 x ∧ IntsAt ((w.alloc o1').alloc o2') p2 b2 o2 y) := by
      intro a1 a2
      have key : ∀ b o, b < w.heap.size → ((w.alloc a1).alloc a2).cell? ⟨b, o, none⟩ = w.cell? ⟨b, o, none⟩ := fun b o hb => by
        rw [World.cell?_of_block (w := w.alloc a1) (Below.heap_alloc _ a2 b (by show b < (w.heap.push _).size; rw [Array.size_push]; omega)), World.cell?_of_block (w := w) (Below.heap_alloc w a1 b hb)]
      refine ⟨⟨I.out.1.1, fun j hj => ?_⟩, ⟨I.out.2.1.1, fun j hj => ?_⟩⟩
      · rw [key _ _ (I.out.2.2.1 (by omega))]; exact I.out.1.2 j hj
      · rw [key _ _ (I.out.2.2.2 (by omega))]; exact I.out.2.1.2 j hj
    have c34' := c34 _ (hW (.cells #[.slice p1 x.length c1, f1, m1] 25) (.cells #[.slice p2 y.length c2, f2, m2] 25))
    have R : Aside (cmpKi x y = cmpL x y) := by show cmpKi x y = _; unfold cmpKi; rw [if_neg (by simpa using hd)]
    clear c34 hW
    go_enter Try.func33, Try.ntmps33
    go_wp2_with (go_at_call 34; refine c34'.mono ?_; rintro e w1 ⟨rfl, rfl⟩)
    go_ret
    exact ⟨by rw [R.out]; rfl, 0, _, by rw [alloc_eq_grow, alloc_eq_grow, grow_grow]; rfl⟩
  · have hd' : ((x.length : Int) - y.length != 0) = true := by simp [hd]
    have R : Aside (cmpKi x y = (x.length : Int) - y.length) := by show cmpKi x y = _; unfold cmpKi; rw [if_pos hd]
    clear c34
    go_enter Try.func33, Try.ntmps33
    go_wp2
    go_ret
    exact ⟨by rw [R.out]; rfl, 0, _, by rw [alloc_eq_grow, alloc_eq_grow, grow_grow]; rfl⟩
end Go.Proofs


set_option maxRecDepth 100000
set_option maxHeartbeats 4000000
namespace Go.Abs
open Go.Sort Go.Proofs Go.Shelf Go.Lib Go.RowKit
def oneB (e : TypeId) (k τ : Nat) (rows : List (List C)) : Nat → Option O := fun s => if s = τ then some (.arr e k none rows) else none
def RowAt (w : World) (Z : Bk → Prop) (r : List C) (v : List Value) : Prop := v.length = r.length ∧ ∀ (j : Nat) c u, r[j]? = some c → v[j]? = some u → PRep w Z c u
theorem holds_flat {w : World} {b : Nat} {cur F : Array Value} {e : TypeId} (hb : w.heap[b]? = some (.cells cur e (0, 0))) (hF : F.size ≤ cur.size) (h : ∀ j, j < F.size → cur[j]? = some F[j]!) : Holds id w b 0 F := by
  intro j hj
  refine ⟨?_, by simp [World.frozen?, hb]⟩
  simp only [World.cell?, hb, Nat.zero_add]
  simp only [Option.isSome_none, Bool.false_eq_true, if_false]
  exact h j hj
theorem heap_flat {w : World} {g n : Nat} {os : Array Obj} {cur : Array Value} {e : TypeId} {fr : Nat × Nat} (d : Array Value) (hb : w.heap[g]? = some (.cells cur e fr)) :
    (grow (putRow id (Sort.ahead w n) g 0 d) os).heap[g]? = some (.cells (putCells id 0 d cur) e fr) := by
  have hg : g < w.heap.size := (Array.getElem?_eq_some_iff.1 hb).1
  rw [heap_grow_old _ _ (by simpa using hg)]
  simp [putRow, mapBlock, Sort.ahead, Array.getElem?_modify, hb, onCells]
theorem grownBy_flat {w : World} {g n : Nat} {os : Array Obj} (d : Array Value) : w.grownBy (grow (putRow id (Sort.ahead w n) g 0 d) os) (some g) := by
  refine ⟨rfl, rfl, rfl, by simp, fun k hk hne => ?_⟩
  rw [heap_grow_old _ _ (by simpa using hk)]
  have : g ≠ k := fun e => hne (by rw [e])
  simp [putRow, mapBlock, Sort.ahead, Array.getElem?_modify, this]
theorem vs_two {vs : Array Value} (h : vs.size = 2) : ∃ a b, vs = #[a, b] := by
  obtain ⟨l⟩ := vs
  match l, h with
  | [a, b], _ => exact ⟨a, b, rfl⟩
theorem state2 {τ : Nat} {x y r : V} (o : Nat → Option O) (ob : O) (h : ∀ s, s ≠ τ → o s = none) : (((⟨fun s => [x, y].getD s .any, o⟩ : St).scrub τ).setO τ ob).put 0 r = ⟨fun s => if s = 0 then r else (([x, y].getD s .any).scrub τ), fun s => if s = τ then some ob else none⟩ := by
  simp only [St.put, St.setO, St.scrub, St.mk.injEq]
  refine ⟨trivial, ?_⟩
  funext s
  by_cases hs : s = τ
  · simp [hs]
  · simp [hs, h s hs]
theorem sortF_spec {P : Program} {ρ : Ren} (L : SlLaysF0.n6 P ρ) (hc : Callable P (ρ.f 6)) (e : TypeId) (k : Nat) (k0 : 0 < k) (aE : ∀ w, (isAgg (ρ.t 24)).run P w = .ok true w) (zE : ∀ w, (Go.sizeOf (ρ.t 24)).run P w = .ok k w)
    {β : Type} (encR : β → List C) (hk : ∀ x, (encR x).length = k) (cf : β → β → Int) (lt : β → β → Bool) (hlt : ∀ x y, decide (cf x y < 0) = lt x y) (hO : SWO lt) (g : Nat) (eg : ∀ args w, (callFunc g args).run P w = .ok (.enter g args) w)
    (τ : Nat) (ks : List β) (hm : ks.length < 4611686018427387904)
    (hcl : ∀ x ∈ ks, ∀ y ∈ ks, ∀ (W : World) (Z : Bk → Prop) (vx vy : List Value), (∀ b, Z b → b.2 < W.heap.size) → RowAt W Z (encR x) vx → RowAt W Z (encR y) vy →
      Calls P g #[.agg vx.toArray, .agg vy.toArray] W fun e w' => e = .returned (.int .i64 (cf x y)) ∧ ∃ q os', w' = grow (W.drewN q) os') :
    SpecS P (ρ.f 6) [.k (.own τ), .k (.c (.fn g []))] (oneB e k τ (ks.map encR)) [τ] (fun r o' => r = .tup [] ∧ ∃ out : List β, out.Perm ks ∧ out.Pairwise (fun x y => lt y x = false) ∧ o' = oneB e k τ (out.map encR)) := by
  refine ⟨hc, fun w0 Z0 κ w vs hsz hi => ?_⟩
  obtain ⟨v, fv, rfl⟩ := vs_two hsz
  have ho : (oneB e k τ (ks.map encR)) τ = some (.arr e k none (ks.map encR)) := by simp [oneB]
  have hno : ∀ s, s ≠ τ → oneB e k τ (ks.map encR) s = none := fun s hs => by simp [oneB, hs]
  have hob := hi.objs τ _ ho
  have htm : VRep w (Zof w0 Z0 κ (oneB e k τ (ks.map encR)) w) κ (oneB e k τ (ks.map encR)) (.k (.own τ)) v := by simpa using hi.tmps 0
  have htf : VRep w (Zof w0 Z0 κ (oneB e k τ (ks.map encR)) w) κ (oneB e k τ (ks.map encR)) (.k (.c (.fn g []))) fv := by simpa using hi.tmps 1
  have hfv : fv = .func (.func g) #[] #[] := by
    have := htf.2
    unfold KRep at this
    cases this with
    | fn f caps us val h1 h2 h3 =>
      have : us = #[] := Array.eq_empty_of_size_eq_zero h1
      rw [this]
  subst hfv

  have none_case : ∀ (p : Option Addr) (cap : Nat), ks = [] → v = .slice p 0 cap → Calls P (ρ.f 6) #[v, .func (.func g) #[] #[]] w fun e_1 w' => ∃ v κ' r o', e_1 = .returned v ∧ (r = .tup [] ∧ ∃ out : List β, out.Perm ks ∧ out.Pairwise (fun x y => lt y x = false) ∧ o' = oneB e k τ (out.map encR)) ∧ TabLike (fun τ_1 => τ_1 ∈ [τ]) (oneB e k τ (ks.map encR)) o' κ κ' w w' ∧ Inv w0 Z0 κ' ⟨fun s => if s = 0 then r else .any, o'⟩ #[v] w' := by
    intro p cap hnil hv
    subst hnil hv
    refine (AnyF.slices_SortFunc_none L p cap _ w).mono ?_
    rintro ex w' ⟨rfl, hw⟩
    rw [hw]
    have hI := hi.moveG (τ := τ) (d := 0) (ob := .arr e k none []) (v := .tup []) (u := .tuple #[]) (bo := κ τ) (w' := w) ho (by simp) rfl rfl rfl (Nat.le_refl _) (fun _ _ _ => rfl) (fun b hb => .inr hb)
      (fun Z hZ => ?_) ⟨#[], rfl, rfl, trivial⟩
    · have hI2 := hI.only (T := [τ]) (r := .tup []) (v := .tuple #[]) ⟨#[], rfl, rfl, trivial⟩ rfl (fun t ht ob hob => by
        simp only [List.mem_singleton] at ht
        subst ht
        simp [St.put, St.setO] at hob
        subst hob; rfl)
      have htab : tabIn [τ] ((((⟨fun s => [V.k (.own τ), .k (.c (.fn g []))].getD s .any, oneB e k τ (([] : List β).map encR)⟩ : St).scrub τ).setO τ (.arr e k none [])).put 0 (.tup [])).o = oneB e k τ (([] : List β).map encR) := by
        funext t
        unfold tabIn oneB
        by_cases ht : t = τ
        · subst ht; simp [St.put, St.setO]
        · simp [ht]
      rw [htab] at hI2
      refine ⟨.tuple #[], _, .tup [], _, rfl, ⟨rfl, [], List.Perm.refl _, List.Pairwise.nil, rfl⟩, ?_, hI2⟩
      intro s hs
      simp only [List.mem_singleton] at hs
      subst hs
      refine ⟨by simp [Like, oneB], by simp, fun _ b hb cur e' f hcur => ⟨cur, hcur, rfl⟩⟩
    · have hZ' := hob
      rcases hZ' with ⟨h1, _, _⟩ | ⟨b, cur, cap', h1, h2, h3, h4, h5, h6, _, h8, _⟩
      · exact .inl ⟨by simp [h1], rfl, by simp⟩
      · exact .inr ⟨b, cur, cap', by simp [h1], h2, h3, h4, by simp, h6, by simp, by simp, fun i j r c hr => by simp at hr⟩
  rcases hob with ⟨hκ, hrows, _⟩ | ⟨b, cur, cap, hκ, hheap, h0, hcs, hlen, hcap, _, hall, hrr⟩
  · have hl0 : ks = [] := by simpa using hrows
    have hv : v = .slice none 0 0 := by
      rcases htm.2 e k none _ ho with ⟨_, hv⟩ | ⟨b, _, _, hb, _⟩
      · exact hv
      · rw [hκ] at hb; cases hb
    exact none_case none 0 hl0 hv
  · obtain ⟨cap', hv, hcap'⟩ : ∃ cap', v = .slice (some ⟨b, 0, none⟩) ks.length cap' ∧ cur.size = cap' * k := by
      rcases htm.2 e k none _ ho with ⟨hn, _⟩ | ⟨b', cur', cap', hb, hh, hc2, hv⟩
      · rw [hκ] at hn; cases hn
      · rw [hκ] at hb; cases hb
        rw [hheap] at hh; cases hh
        exact ⟨cap', by simpa using hv, hc2⟩
    by_cases hks : ks = []
    · exact none_case _ cap' hks (by rw [hv, hks]; rfl)
    have hpos : 0 < ks.length := List.length_pos_iff.2 hks
    subst hv
    have hlt' : b < w.heap.size := heap_lt hheap
    rw [List.length_map] at hlen
    have hcsz : ks.length * k ≤ cur.size := by rw [hcs]; exact Nat.mul_le_mul_right k hlen
    haveI : Inhabited (Fin ks.length) := ⟨⟨0, hpos⟩⟩
    let enc : Fin ks.length → List Value := fun i => (List.range k).map fun j => cur.getD (i.1 * k + j) (.bool true)
    have enck : ∀ x, (enc x).length = k := fun x => by simp [enc]
    have hcell : ∀ (i : Fin ks.length) (j : Nat) c, (encR ks[i.1])[j]? = some c → ∃ u, cur[i.1 * k + j]? = some u ∧ (enc i)[j]? = some u ∧ PRep w (Zof w0 Z0 κ (oneB e k τ (ks.map encR)) w) c u := by
      intro i j c hcj
      have hj : j < k := by rw [← hk ks[i.1]]; exact (List.getElem?_eq_some_iff.1 hcj).1
      obtain ⟨u, hu, hp⟩ := hrr i.1 j (encR ks[i.1]) c (by rw [List.getElem?_map, List.getElem?_eq_getElem i.2]; rfl) hcj
      refine ⟨u, hu, ?_, hp⟩
      simp only [enc, List.getElem?_map, List.getElem?_range hj, Option.map_some]
      rw [Array.getD_eq_getD_getElem?, hu]; rfl
    have henc1 : ∀ x, ∀ u ∈ enc x, u.oneCell' = true := by
      intro x u hu
      obtain ⟨j, hj, rfl⟩ := List.getElem_of_mem hu
      have hj' : j < k := by rwa [enck] at hj
      obtain ⟨u2, _, h2, h3⟩ := hcell x j _ (List.getElem?_eq_getElem (by rw [hk]; exact hj'))
      rw [List.getElem?_eq_getElem hj] at h2
      cases h2
      exact h3.oneCell
    let d : Array (Fin ks.length) := Array.ofFn fun i => i
    have hds : d.size = ks.length := by simp [d]
    have hdi : ∀ i (h : i < ks.length), d[i]! = ⟨i, h⟩ := fun i h => by simp [d, h]
    have hflat : ∀ (d' : Array (Fin ks.length)), d'.size = ks.length → ∀ t, t < ks.length * k → (flatK enc k d')[t]! = cur.getD (d'[t / k]!.1 * k + t % k) (.bool true) := by
      intro d' hd' t ht
      rw [get_flatK _ _ _ _ (by rw [hd']; exact ht)]
      have hm2 : t % k < k := Nat.mod_lt _ k0
      simp only [enc]
      rw [getElem!_pos _ _ (by simpa using hm2)]
      simp
    have hH : HoldsK enc k w b 0 d := by
      refine holds_flat hheap (by simp [hds]; exact hcsz) fun t ht => ?_
      rw [size_flatK, hds] at ht
      rw [hflat d hds t ht]
      have hq : t / k < ks.length := (Nat.div_lt_iff_lt_mul k0).2 ht
      rw [hdi _ hq]
      have e1 : t / k * k + t % k = t := Nat.div_add_mod' t k
      show cur[t]? = some (cur.getD (t / k * k + t % k) _)
      rw [e1, Array.getD_eq_getD_getElem?, Array.getElem?_eq_getElem (by omega)]; rfl
    let cfF : Fin ks.length → Fin ks.length → Int := fun i j => cf ks[i.1] ks[j.1]
    have hltF : ∀ x y, ltOf cfF x y = lt ks[x.1] ks[y.1] := fun x y => by unfold ltOf; exact hlt _ _
    have hOF : SWO (ltOf cfF) := ⟨fun x => by rw [hltF]; exact hO.irrefl _, fun x y z h1 h2 => by rw [hltF] at *; exact hO.trans _ _ _ h1 h2, fun x y z h1 h2 => by rw [hltF] at *; exact hO.ntrans _ _ _ h1 h2⟩
    have hcmp : CmpLays P g #[] enc k cfF b 0 d.size w := by
      intro m os dk hdk x y
      have hsame : Same (Zof w0 Z0 κ (oneB e k τ (ks.map encR)) w) w (sortWorldK enc k w b 0 m dk os) := by
        intro bk hbk
        have hne : bk.2 ≠ b := fun e2 => hbk.2.2 τ (by rw [ho]; simp) (by rw [hκ, e2])
        exact (grownBy_flat (flatK enc k dk)).block bk.2 hbk.2.1 (fun e2 => hne (by cases e2; rfl))
      have hrow : ∀ i : Fin ks.length, RowAt (sortWorldK enc k w b 0 m dk os) (Zof w0 Z0 κ (oneB e k τ (ks.map encR)) w) (encR ks[i.1]) (enc i) := by
        intro i
        refine ⟨by rw [enck, hk], fun j c u hcj hu => ?_⟩
        obtain ⟨u2, _, h2, h3⟩ := hcell i j c hcj
        rw [h2] at hu; cases hu
        exact h3.mono hsame fun _ h => h
      have hsz2 : w.heap.size ≤ (sortWorldK enc k w b 0 m dk os).heap.size := (grownBy_flat (flatK enc k dk)).size
      have := hcl ks[x.1] (List.getElem_mem _) ks[y.1] (List.getElem_mem _) (sortWorldK enc k w b 0 m dk os) (Zof w0 Z0 κ (oneB e k τ (ks.map encR)) w) (enc x) (enc y) (fun bk hbk => Nat.lt_of_lt_of_le hbk.2.1 hsz2) (hrow x) (hrow y)
      rw [show (#[.agg (enc x).toArray, .agg (enc y).toArray] ++ #[] : Array Value) = #[.agg (enc x).toArray, .agg (enc y).toArray] from rfl]
      exact this
    have hcon := AnyQ.slices_SortFunc L k aE zE enc enck henc1 cfF hOF g #[] b 0 cap' d w eg hcmp hH hlt' (by rw [hds]; exact hm)
    rw [hds] at hcon
    refine hcon.mono ?_
    rintro ex w' ⟨rfl, d', n, os, ⟨p1, p2, p3⟩, hs, rfl⟩
    rw [hds] at p1
    have hfull : ∀ a : Array (Fin ks.length), a.size = ks.length → a.extract 0 ks.length = a := fun a ha => by
      apply Array.ext
      · simp [ha]
      · intro i h1 h2; simp
    rw [hfull d' p1, hfull d hds] at p3
    let out : List β := d'.toList.map fun i => ks[i.1]
    have hol : out.length = ks.length := by simp [out, p1]
    have hperm : out.Perm ks := by
      have h1 : (d.toList.map fun i : Fin ks.length => ks[i.1]) = ks := by
        apply List.ext_getElem
        · simp [d]
        · intro i h1 h2; simp [d]
      have h2 : (d'.toList.map fun i : Fin ks.length => ks[i.1]).Perm (d.toList.map fun i : Fin ks.length => ks[i.1]) := p3.map _
      rw [h1] at h2; exact h2
    have hpw : out.Pairwise fun x y => lt y x = false := by
      rw [List.pairwise_iff_getElem]
      intro i j h1 h2 hij
      have hi1 : i < d'.size := by rw [p1, ← hol]; exact h1
      have hj1 : j < d'.size := by rw [p1, ← hol]; exact h2
      have := hs i j (Nat.zero_le _) hij (by rw [← p1]; exact hj1)
      rw [hltF, getElem!_pos d' i hi1, getElem!_pos d' j hj1] at this
      simpa [out] using this
    have hh2 := heap_flat (w := w) (n := n) (os := os) (flatK enc k d') hheap
    obtain ⟨g1, g2, g3, g4, g5⟩ := grownBy_flat (w := w) (g := b) (n := n) (os := os) (flatK enc k d')
    have hsz2 : (putCells id 0 (flatK enc k d') cur).size = cur.size := by simp [putCells]
    have hzsame : Same (Zof w0 Z0 κ (oneB e k τ (ks.map encR)) w) w (sortWorldK enc k w b 0 n d' os) := by
      intro bk hbk
      have hne : bk.2 ≠ b := fun e2 => hbk.2.2 τ (by rw [ho]; simp) (by rw [hκ, e2])
      exact g5 bk.2 hbk.2.1 (fun e2 => hne (by cases e2; rfl))
    have hI := hi.moveG (τ := τ) (d := 0) (ob := .arr e k none (out.map encR)) (v := .tup []) (u := .tuple #[]) (bo := some b) (w' := sortWorldK enc k w b 0 n d' os) ho (by simp) g1 g2 g3 g4
      (fun q hq hne => g5 q hq (by rw [hκ] at hne; exact fun h => hne (by cases h; rfl))) (fun b' hb => .inr (by cases hb; exact hκ))
      (fun Z hZ => .inr ⟨b, _, cap, by simp, hh2, h0, by rw [hsz2]; exact hcs, by rw [List.length_map, hol]; exact hlen, hcap, by simp, fun r hr => by obtain ⟨x, _, rfl⟩ := List.mem_map.1 hr; exact hk x, fun i j r c hr hcj => ?_⟩) ⟨#[], rfl, rfl, trivial⟩
    · rw [state2 _ _ hno] at hI
      have hI2 := hI.only (T := [τ]) (r := .tup []) (v := .tuple #[]) ⟨#[], rfl, rfl, trivial⟩ rfl (fun t ht ob hob => by
        simp only [List.mem_singleton] at ht
        subst ht
        simp at hob
        subst hob; rfl)
      have htab : tabIn [τ] (fun s => if s = τ then some (O.arr e k none (out.map encR)) else none) = oneB e k τ (out.map encR) := by
        funext t
        unfold tabIn oneB
        by_cases ht : t = τ
        · subst ht; simp
        · simp [ht]
      rw [htab] at hI2
      refine ⟨.tuple #[], _, .tup [], _, rfl, ⟨rfl, out, hperm, hpw, rfl⟩, ?_, hI2⟩
      intro s hs
      simp only [List.mem_singleton] at hs
      subst hs
      refine ⟨by simp [oneB, Like, hol], by simp [hκ], fun _ b' hb cur0 e0 f0 hc0 => ?_⟩
      rw [hκ] at hb; cases hb
      rw [hheap] at hc0; cases hc0
      exact ⟨_, hh2, hsz2⟩
    ·
      have hi' : i < ks.length := by have := (List.getElem?_eq_some_iff.1 hr).1; rwa [List.length_map, hol] at this
      have hid : i < d'.size := by rw [p1]; exact hi'
      have hout : out[i]'(by rw [hol]; exact hi') = ks[(d'[i]).1] := by simp [out]
      have hr' : r = encR ks[(d'[i]).1] := by
        rw [List.getElem?_map, List.getElem?_eq_getElem (by rw [hol]; exact hi')] at hr
        have := Option.some.inj hr
        rw [← this, hout]
      subst hr'
      have hj : j < k := by rw [← hk ks[(d'[i]).1]]; exact (List.getElem?_eq_some_iff.1 hcj).1
      obtain ⟨u, hu, _, hp⟩ := hcell d'[i] j c hcj
      have hlt2 : i * k + j < ks.length * k := by
        have := Nat.mul_le_mul_right k (show i + 1 ≤ ks.length from hi')
        rw [Nat.add_mul, Nat.one_mul] at this; omega
      have e1 : (i * k + j) / k = i := (blk_iff k i _ k0).1 ⟨by omega, by omega⟩
      have e2 : (i * k + j) % k = j := by rw [Nat.mod_eq_sub_div_mul, e1]; omega
      refine ⟨u, ?_, hp.mono hzsame hZ⟩
      have hf := hflat d' p1 (i * k + j) hlt2
      rw [e1, e2, getElem!_pos d' i hid, Array.getD_eq_getD_getElem?, hu] at hf
      have hfs : i * k + j < (flatK enc k d').size := by rw [size_flatK, p1]; exact hlt2
      have hcs2 : i * k + j < cur.size := by omega
      simp only [putCells]
      rw [Array.getElem?_mapIdx, Array.getElem?_eq_getElem hcs2]
      simp only [Option.map_some, Nat.zero_le, true_and, Nat.zero_add, hfs, if_true, Nat.sub_zero, id]
      rw [hf]; rfl
end Go.Abs


set_option maxRecDepth 100000
set_option maxHeartbeats 4000000
namespace Go.Abs
open Go.Sort Go.Proofs Go.Shelf Go.Lib Go.RowKit
def encKi (x : Ki) : List C := [lstC 1 (ints x.dr), lstC 1 (ints x.fi), .int .i64 x.mo]
def kis (l : List Ki) : List (List C) := l.map encKi
theorem kis_len (l : List Ki) : (kis l).length = l.length := by simp [kis]
theorem kis_at {l : List Ki} {i : Nat} (h : i < l.length) : (kis l).getD i [] = encKi l[i] := by simp [kis, h]
theorem normRow_encKi (x : Ki) : C.normRow (encKi x) = encKi x := by simp only [encKi, C.normRow, norm_lst, normRows_ints, norm_int]
theorem normRows_kis (l : List Ki) : C.normRows (kis l) = kis l := normRows_eq normRow_encKi l
def encKf (x : Ki) : List C := [.list 1 (some false) (ints x.dr), .list 1 (some false) (ints x.fi), .int .i64 x.mo]
def kisF (l : List Ki) : List (List C) := l.map encKf
theorem kisF_len (l : List Ki) : (kisF l).length = l.length := by simp [kisF]
theorem kisF_snoc (l : List Ki) (x : Ki) : kisF l ++ [encKf x] = kisF (l ++ [x]) := by simp [kisF]
theorem normRows_kisF (l : List Ki) : C.normRows (kisF l) = kis l := by
  induction l with
  | nil => rfl
  | cons a l ih =>
    have h1 : kisF (a :: l) = encKf a :: kisF l := rfl
    have h2 : kis (a :: l) = encKi a :: kis l := rfl
    rw [h1, h2, normRows_cons, ih]
    simp only [encKf, encKi, C.normRow, norm_list, normRows_ints, norm_int]
theorem swo_ltK : SWO (fun x y : Ki => ltK x y) := ⟨ltK_irr, fun _ _ _ => ltK_trans, fun _ _ _ => ltK_swo⟩
theorem d32 (τ : Nat) (ks : List Ki) (hm : ks.length ≤ 1000) (hk : ∀ x ∈ ks, x.dr.length ≤ 1000) : SpecS Try.prog 32 [.k (.own τ), .k (.c (.fn 33 []))] (oneB 25 3 τ (kis ks)) [τ] (fun r o' => r = .tup [] ∧ ∃ out : List Ki, out.Perm ks ∧ out.Pairwise (fun x y => ltK y x = false) ∧ o' = oneB 25 3 τ (kis out)) := by
  refine sortF_spec Try.laysSortF (callable_at (by kernel_rfl)) 25 3 (by decide) Try.isAgg25 Try.sizeOf25 encKi (fun _ => rfl) (fun x y => cmpKi x.dr y.dr) ltK cmpKi_lt swo_ltK 33 (enters_of Try.func33 (by kernel_rfl) rfl) τ ks (by omega) ?_
  intro x hx y hy W Z vx vy hZ hvx hvy
  obtain ⟨hlx, hcx⟩ := hvx
  obtain ⟨hly, hcy⟩ := hvy
  match vx, hlx, hcx with
  | [s1, f1, m1], _, hcx =>
    match vy, hly, hcy with
    | [s2, f2, m2], _, hcy =>
      have a1 := hcx 0 _ _ rfl rfl
      have a2 := hcx 1 _ _ rfl rfl
      have a3 := hcx 2 _ _ rfl rfl
      have b1 := hcy 0 _ _ rfl rfl
      have b2 := hcy 1 _ _ rfl rfl
      have b3 := hcy 2 _ _ rfl rfl
      obtain ⟨q1, rfl, q2⟩ := ints_slice a1
      obtain ⟨r1, rfl, r2⟩ := ints_slice b1
      refine closure33 q1.2.2.1 q1.2.2.2 q1.2.1 r1.2.2.1 r1.2.2.2 r1.2.1 q1.1 r1.1 x.dr y.dr f1 f2 m1 m2 W (hk x hx) (hk y hy) a2.oneCell b2.oneCell a3.oneCell b3.oneCell ⟨⟨fun h => (q2 h).1, fun j hj => ?_⟩, ⟨fun h => (r2 h).1, fun j hj => ?_⟩, fun h => hZ _ (q2 h).2.1, fun h => hZ _ (r2 h).2.1⟩
      · exact (q2 (by omega)).2.2 j hj
      · exact (r2 (by omega)).2.2 j hj
def rawT (l : List Dr) (n : Nat) : List Ki := ((rangeI 0 n).filter (wholeG l)).map fun x => kiOf l (closG l x)
theorem rangeI_snoc (lo : Int) (m : Nat) : rangeI lo (m + 1) = rangeI lo m ++ [lo + m] := by unfold rangeI; rw [List.range_succ, List.map_append]; rfl
theorem rawT_next (l : List Dr) (n : Nat) : rawT l (n + 1) = if wholeG l (n : Int) = true then rawT l n ++ [kiOf l (closG l n)] else rawT l n := by
  unfold rawT
  rw [rangeI_snoc, List.filter_append, List.map_append, Int.zero_add]
  by_cases h : wholeG l (n : Int) = true
  · simp [h]
  · simp [h]
def firstsA (l : List Dr) (n : Nat) : List Int := (List.range l.length).map fun (j : Nat) => if j < n then firstG l j else 0
theorem firstsA_len (l : List Dr) (n : Nat) : (firstsA l n).length = l.length := by simp [firstsA]
theorem firstsA_zero (l : List Dr) : firstsA l 0 = List.replicate l.length 0 := by
  apply List.ext_getElem
  · simp [firstsA]
  · intro j h1 h2; simp [firstsA]
theorem firstsA_next {l : List Dr} {n : Nat} (h : n < l.length) : (firstsA l n).set n (firstG l n) = firstsA l (n + 1) := by
  apply List.ext_getElem
  · simp [firstsA]
  · intro j h1 h2
    rw [List.getElem_set]
    simp only [firstsA, List.getElem_map, List.getElem_range]
    by_cases e : n = j
    · subst e; rw [if_pos rfl, if_pos (by omega)]
    · rw [if_neg e]
      by_cases g : j < n
      · rw [if_pos g, if_pos (by omega)]
      · rw [if_neg g, if_neg (by omega)]
theorem firstsA_at {l : List Dr} {n : Nat} {y : Int} (h0 : 0 ≤ y) (h : y < n) (hn : n ≤ l.length) : (firstsA l n).getD y.toNat 0 = firstG l y := by
  have h1 : y.toNat < l.length := by omega
  simp only [firstsA, List.getD_eq_getElem?_getD, List.getElem?_map, List.getElem?_range h1, Option.map_some, Option.getD_some]
  rw [if_pos (by omega), show ((y.toNat : Nat) : Int) = y by omega]
theorem call_sortF {P : Program} {f d τ g e k : Nat} {xs : List AX} {K : KK} {ts : TS} {os : OS} {nl : Option Bool} {X : Prop} {β : Type} {encR : β → List C} {Q : List β → Prop} (rows0 : List (List C)) (ks : List β)
    (hs : SpecS P f [.k (.own τ), .k (.c (.fn g []))] (oneB e k τ (ks.map encR)) [τ] (fun r o' => r = .tup [] ∧ ∃ out, Q out ∧ o' = oneB e k τ (out.map encR))) (ho : lookO τ os = some (.arr e k nl rows0)) (hn : C.normRows rows0 = ks.map encR)
    (hk : ∀ out, Q out → K (insT d (.tup []) ts) (insO τ (.arr e k none (out.map encR)) os)) : X ∨ callSF P f [.k (.own τ), .k (.c (.fn g []))] xs K (some d) ts os := by
  refine .inr (.inl ?_)
  refine ⟨[τ], [τ], [], fun r o' => r = .tup [] ∧ ∃ out, Q out ∧ o' = oneB e k τ (out.map encR), by simp [V.within, Abs.K.within], rfl, ?_, fun s hs => .inl hs, ?_, ?_⟩
  · intro s hs ob hob
    simp only [List.mem_singleton] at hs
    subst hs
    rw [ho] at hob; cases hob; rfl
  · have e1 : (tabIn [τ] fun s => (lookO s os).map O.nrm) = oneB e k τ (ks.map encR) := by
      funext s
      by_cases h : s = τ
      · subst h
        simp [tabIn, ho, oneB, O.nrm, hn]
      · simp [tabIn, oneB, h]
    rw [e1]; exact hs
  · rintro r o' ⟨rfl, out, hQ, rfl⟩
    refine ⟨fun s hs => by simp at hs; simp [oneB, hs], rfl, fun s ob h => ?_, ?_⟩
    · unfold oneB at h
      split at h
      · cases h; rfl
      · cases h
    · have e2 : (mkS ts os).back [τ] [] (oneB e k τ (out.map encR)) = mkS ts (insO τ (.arr e k none (out.map encR)) os) := by
        simp only [St.back, mkS, St.mk.injEq]
        refine ⟨by funext s; rfl, ?_⟩
        funext s
        rw [lookO_ins]
        by_cases h : s = τ
        · subst h; simp [oneB]
        · simp only [List.contains_cons, List.contains_nil, Bool.or_false, beq_iff_eq, h, if_false]
          cases lookO s os <;> rfl
      show onS K (((mkS ts os).back [τ] [] (oneB e k τ (out.map encR))).put d (.tup []))
      rw [e2, mkS_put]; exact onS_mk (hk out hQ)
theorem closG_len {l : List Dr} (hc : CovOk l) {x : Int} (h0 : 0 ≤ x) (hx : x < l.length) : (closG l x).length ≤ l.length := by
  rcases closG_spec hc h0 hx with ⟨h1, _⟩ | ⟨i, h1, h2, _⟩
  · rw [h1]; simp
  · rw [h1, chn_len]
    have h3 := h2.2.1.dec hc i (Nat.le_refl i)
    have h4 := h2.2.1.2 i (Nat.le_refl i)
    omega
theorem closG_mem {l : List Dr} (hc : CovOk l) {x y : Int} (h0 : 0 ≤ x) (hx : x < l.length) (hy : y ∈ closG l x) : 0 ≤ y ∧ y < l.length ∧ y ≤ x := by
  rcases closG_spec hc h0 hx with ⟨h1, _⟩ | ⟨i, h1, h2, _⟩
  · rw [h1] at hy; cases hy
  · rw [h1] at hy
    obtain ⟨j, hj, rfl⟩ := chn_mem.1 hy
    have h3 := h2.2.1.dec hc j hj
    have h4 := h2.2.1.rng hc hj
    omega
def whT (l : List Dr) (c : List Int) (i : Nat) : Bool := (c.dropLast.take i).all fun y => decide (firstG l y < c.headD (-1))
def fiT (l : List Dr) (c : List Int) (i : Nat) : List Int := (c.take i).map fun y => (dat l y).d
def moT (l : List Dr) (c : List Int) (i : Nat) : Int := sumI ((c.dropLast.take i).map (ownAt l))
theorem dl_take {c : List Int} {i : Nat} (h : i + 1 < c.length) : c.dropLast.take (i + 1) = c.dropLast.take i ++ [c[i]] := by
  have h1 : i < c.dropLast.length := by rw [List.length_dropLast]; omega
  rw [List.take_succ_eq_append_getElem h1, List.getElem_dropLast]
theorem dl_last {c : List Int} {i : Nat} (h : i + 1 = c.length) : c.dropLast.take (i + 1) = c.dropLast.take i := by
  rw [List.take_of_length_le (by rw [List.length_dropLast]; omega), List.take_of_length_le (by rw [List.length_dropLast]; omega)]
theorem fiT_next {l : List Dr} {c : List Int} {i : Nat} (h : i < c.length) : fiT l c (i + 1) = fiT l c i ++ [(dat l c[i]).d] := by
  unfold fiT; rw [List.take_succ_eq_append_getElem h, List.map_append]; rfl
def obK (l : List Dr) (c : List Int) (nl : Option Bool) (raw : List Ki) (fs : List Int) : Nat → OS
  | 0 => [(5, .arr 25 3 nl (kisF raw)), (8, .var 25 [.c (.list 1 (some false) (ints c)), .c (.list 0 (some true) []), .c (.int .i64 (moT l c 0))]), (19, .arr 3 1 (some false) (ints fs))]
  | i + 1 => [(5, .arr 25 3 nl (kisF raw)), (8, .var 25 [.c (.list 1 (some false) (ints c)), .own 74, .c (.int .i64 (moT l c (i + 1)))]), (19, .arr 3 1 (some false) (ints fs)), (74, .arr 3 1 (some false) (ints (fiT l c (i + 1))))]
theorem d15 (l : List Dr) : Spec Try.prog 15 [lst 6 (drs l)] (fun r => r = lst 3 (kis (if chkG l = 0 then kitesR l else []))) := by
  refine Spec.of_awlP hf15 okf15 (by simp) fun S hS => ?_
  simp only [normRows_drs, Qs, Nat.reduceBEq, uu f15.eq_1, vv f15r68.eq_1, uu f15b69.eq_1, uu f15b70.eq_1, vv f15r71.eq_1, uu f15b72.eq_1]
  refine call_s (d10 l) ?_ (ha := by simp [lendL, lendO, lookO, V.norm, norm_list, lst, normRows_drs])
  by_cases h : chkG l = 0
  case neg =>
    have hb : (chkG l != 0) = true := by simpa using h
    rw [if_neg h] at hS
    simp only [hb, Qs, if_true, BEq.rfl, List.nodup_nil, List.nodup_cons, Nat.reduceBEq, List.not_mem_nil, vv f15r65.eq_1, uu f15b66.eq_1, uu f15b67.eq_1]
    exact hS _ rfl
  have hb : (chkG l != 0) = false := by simpa using h
  rw [if_pos h] at hS
  have hR := right_of h
  have hl := hR.len
  simp only [hb, drs_len, normRows_drs, Qs, if_true, Nat.reduceBEq, vv f15r63.eq_1, uu f15b64.eq_1, uu f15b67.eq_1]
  refine call_r (d29 l hR) ?_ (ha := by simp [lendL, lendO, lookO, V.norm, norm_list, lst, normRows_drs])
  simp only [drs_len, normRows_drs, Qs, bne_iff_ne, ne_eq, Nat.reduceEqDiff, Nat.reduceBEq, uu f15b55.eq_1, vv f15r56.eq_1, uu f15b57.eq_1, uu f15b58.eq_1, vv f15r59.eq_1, uu f15b60.eq_1, vv f15r61.eq_1, uu f15b62.eq_1]
  refine ⟨Int.le_refl _, by omega, by omega, ?_⟩
  rw [uu f15l54.eq_1]
  refine awl_loop (fun x : Nat × Option Bool => [(0, lst 6 (drs l)), (3, lst 1 (ints (ownL l))), (4, .k (.own 19)), (5, .k (.own 5)), (21, .int .i64 l.length), (22, .int .i64 x.1)]) (fun x => [(5, .arr 25 3 x.2 (kisF (rawT l x.1))), (19, .arr 3 1 (some false) (ints (firstsA l x.1)))])
    (fun x => x.1 ≤ l.length ∧ (rawT l x.1).length ≤ x.1) (fun x => l.length - x.1) (0, some true) rfl (by rw [firstsA_zero]; simp only [← ints_repl0]; rfl) ⟨Nat.zero_le _, by simp [rawT, rangeI]⟩ ?_
  rintro ⟨n, nl⟩ ⟨hn, hraw⟩
  simp only [] at hn hraw
  by_cases hlt : n < l.length
  · have c1 : (n : Int) < l.length := by omega
    have c4 : IntKind.i64.wrap ((n : Int) + 1) = (n : Int) + 1 := wrap_in (by omega) (by omega)
    have i0 : (0 : Int) ≤ (n : Int) := by omega
    have g31 := d31 l hR n i0 c1
    have lf := firstsA_len l n
    have hfn := firstsA_next hlt
    simp only [c1, c4, i0, lf, drs_len, ints_len, normRows_drs, Int.toNat_natCast, ints_set, Qs, if_true, Nat.reduceBEq, vv f15r5.eq_1, vv f15r44.eq_1, uu f15b45.eq_1, vv f15r46.eq_1, uu f15b47.eq_1, uu f15b48.eq_1, uu f15b49.eq_1, uu f15b50.eq_1, uu f15b51.eq_1, vv f15r52.eq_1, uu f15b53.eq_1]
    refine call_l g31 ?_ (ha := by simp [lendL, lendO, lookO, V.norm, norm_list, lst, normRows_drs])
    by_cases hc : closG l n = []
    · have hf1 : firstG l n = -1 := by unfold firstG; rw [hc]; rfl
      have hw1 : wholeG l n = false := by unfold wholeG; rw [hc]; rfl
      have hr1 := rawT_next l n
      rw [hw1, if_neg (by simp)] at hr1
      rw [hf1] at hfn
      rw [hc]
      simp only [c1, c4, i0, lf, ints_len, ints_set, Int.toNat_natCast, decide_true, Qs, q_vNil_eq_1, if_true, if_false, Int.reduceNeg, Nat.reduceEqDiff, Nat.reduceBEq, uu f15b38.eq_1, vv f15r39.eq_1, uu f15b40.eq_1, uu f15b41.eq_1, vv f15r42.eq_1, uu f15b43.eq_1]
      exact Next.intro (n + 1, nl) rfl (by simp only [hr1, ← hfn]; rfl) ⟨hlt, by show (rawT l (n + 1)).length ≤ n + 1; rw [hr1]; omega⟩ (by show l.length - (n + 1) < l.length - n; omega)
    · have hwd : wholeG l n = whT l (closG l n) (closG l n).length := by
        unfold wholeG whT
        rw [decide_eq_true hc, Bool.true_and, List.take_of_length_le (by rw [List.length_dropLast]; omega)]
      have hf1 : firstG l n = (closG l n).headD (-1) := rfl
      have hki : kiOf l (closG l n) = ⟨closG l n, fiT l (closG l n) (closG l n).length, moT l (closG l n) (closG l n).length⟩ := by
        unfold kiOf fiT moT
        rw [List.take_length, List.take_of_length_le (by rw [List.length_dropLast]; omega)]
      have hmem := fun y hy => closG_mem hR.cov i0 c1 (y := y) hy
      have hcl := closG_len hR.cov i0 c1
      have hr1 := rawT_next l n
      rw [hwd, hki] at hr1
      have hcd : decide (closG l n = []) = false := decide_eq_false hc
      rw [hcd]
      rw [hf1] at hfn
      generalize hcc : closG l n = c at hc hwd hmem hcl hr1 hfn
      clear hwd hf1 hki hcd g31
      obtain ⟨p, hp⟩ : ∃ p, c.length = p + 1 := ⟨c.length - 1, by have := List.length_pos_iff.2 hc; omega⟩
      have hd0 : (ints c).getD 0 [] = [.int .i64 (c.headD (-1))] := by
        cases c with
        | nil => exact absurd rfl hc
        | cons a r => rfl
      have z0 : (0 : Int) < ((p + 1 : Nat) : Int) := by omega
      have lf1 : ((firstsA l n).set n (-1)).length = l.length := by rw [List.length_set, lf]
      have hss : ((firstsA l n).set n (-1)).set n (c.headD (-1)) = firstsA l (n + 1) := by rw [List.set_set]; exact hfn
      have nn : (0 : Int).toNat = 0 := rfl
      simp only [c1, c4, i0, lf, lf1, hd0, hp, z0, nn, hss, ints_len, ints_set, Int.toNat_natCast, Qs, q_vNil_eq_1, if_true, if_false, bne_iff_ne, ne_eq, Int.reduceNeg, List.append_nil, Nat.reduceAdd, Nat.reduceEqDiff, Nat.reduceLeDiff, Nat.reduceBEq, Int.reduceLE, uu f15b28.eq_1, vv f15r29.eq_1, uu f15b30.eq_1, uu f15b31.eq_1, vv f15r32.eq_1, uu f15b33.eq_1, vv f15r34.eq_1, uu f15b35.eq_1, vv f15r36.eq_1, uu f15b37.eq_1, uu f15b38.eq_1, vv f15r39.eq_1, uu f15b40.eq_1, uu f15b41.eq_1, vv f15r42.eq_1, uu f15b43.eq_1]
      rw [uu f15l27.eq_1]
      have hmo : ∀ i, 0 ≤ moT l c i ∧ moT l c i ≤ 109951162777600 := by
        intro i
        have h1 := sumI_bound (B := 1099511627776) (l := (c.dropLast.take i).map (ownAt l)) fun z hz => by
          obtain ⟨y, hy, rfl⟩ := List.mem_map.1 hz
          obtain ⟨y0, y1, _⟩ := hmem y (List.dropLast_subset _ (List.mem_of_mem_take hy))
          have h2 := own_facts hR.sum y0 y1
          have h3 := hR.sum _ (dat_mem y0 y1)
          omega
        have h4 : ((c.dropLast.take i).map (ownAt l)).length ≤ 100 := by rw [List.length_map, List.length_take, List.length_dropLast]; omega
        have h5 : (((c.dropLast.take i).map (ownAt l)).length : Int) * 1099511627776 ≤ 100 * 1099511627776 := Int.mul_le_mul_of_nonneg_right (by omega) (by omega)
        have h6 : moT l c i = sumI ((c.dropLast.take i).map (ownAt l)) := rfl
        omega
      refine awl_loop (fun i : Nat => [(0, lst 6 (drs l)), (3, lst 1 (ints (ownL l))), (4, .k (.own 19)), (5, .k (.own 5)), (7, .list 1 (some false) (ints c)), (8, .k (.ptr 8 0)), (9, .bool (whT l c i)), (21, .int .i64 l.length), (22, .int .i64 n), (41, .list 1 (some false) (ints c)), (42, .int .i64 (p + 1 : Nat)), (43, .int .i64 i)])
        (obK l c nl (rawT l n) (firstsA l (n + 1))) (fun i => i ≤ p + 1) (fun i => p + 1 - i) 0 rfl rfl (Nat.zero_le _) ?_
      intro i hi
      by_cases hit : i < p + 1
      · have c5 : (i : Int) < ((p + 1 : Nat) : Int) := by omega
        have c6 : IntKind.i64.wrap ((i : Int) + 1) = (i : Int) + 1 := wrap_in (by omega) (by omega)
        have c7 : IntKind.i64.wrap (((p + 1 : Nat) : Int) - 1) = (p : Int) := by rw [wrap_in (by omega) (by omega)]; omega
        have hic : i < c.length := by omega
        obtain ⟨y, hy⟩ : ∃ y, c[i] = y := ⟨_, rfl⟩
        have hcy : (ints c).getD i [] = [.int .i64 y] := by rw [ints_at hic, hy]
        obtain ⟨y0, y1, y2⟩ := hmem y (by rw [← hy]; exact List.getElem_mem hic)
        have hay := drs_dat y0 y1
        have hoy : (ints (ownL l)).getD y.toNat [] = [.int .i64 (ownAt l y)] := by rw [ints_getD (by rw [ownL_len]; omega), ownL_at (by omega), show ((y.toNat : Nat) : Int) = y by omega]
        have hfy : (ints (firstsA l (n + 1))).getD y.toNat [] = [.int .i64 (firstG l y)] := by rw [ints_getD (by rw [firstsA_len]; omega), firstsA_at y0 (by push_cast; omega) (by omega)]
        have lf2 := firstsA_len l (n + 1)
        have lo2 := ownL_len l
        have hfi := fiT_next (l := l) hic
        rw [hy] at hfi
        have hfl : (fiT l c i).length ≤ 100 := by unfold fiT; rw [List.length_map, List.length_take]; omega
        have q1 : (fiT l c i).length + 1 ≤ 9223372036854775807 := by omega
        have q2 : ((fiT l c i).length + 1) * 8 ≤ 140737488355328 := by omega
        have hm1 := hmo i
        have hm2 := hmo (i + 1)
        have hMeas : p + 1 - (i + 1) < p + 1 - i := by omega

        have key : (i = p ∧ whT l c (i + 1) = whT l c i ∧ moT l c (i + 1) = moT l c i) ∨ (i < p ∧ whT l c (i + 1) = (whT l c i && decide (firstG l y < c.headD (-1))) ∧ moT l c (i + 1) = moT l c i + ownAt l y) := by
          by_cases e : i = p
          · refine .inl ⟨e, ?_, ?_⟩
            · unfold whT; rw [dl_last (by omega)]
            · unfold moT; rw [dl_last (by omega)]
          · refine .inr ⟨by omega, ?_, ?_⟩
            · unfold whT; rw [dl_take (by omega), List.all_append, hy]; simp
            · unfold moT; rw [dl_take (by omega), List.map_append, hy]; exact sumI_snoc _ _
        have hob : (i = 0 ∧ fiT l c i = [] ∧ obK l c nl (rawT l n) (firstsA l (n + 1)) i = [(5, .arr 25 3 nl (kisF (rawT l n))), (8, .var 25 [.c (.list 1 (some false) (ints c)), .c (.list 0 (some true) []), .c (.int .i64 (moT l c i))]), (19, .arr 3 1 (some false) (ints (firstsA l (n + 1))))]) ∨
            (0 < i ∧ obK l c nl (rawT l n) (firstsA l (n + 1)) i = [(5, .arr 25 3 nl (kisF (rawT l n))), (8, .var 25 [.c (.list 1 (some false) (ints c)), .own 74, .c (.int .i64 (moT l c i))]), (19, .arr 3 1 (some false) (ints (firstsA l (n + 1)))), (74, .arr 3 1 (some false) (ints (fiT l c i)))]) := by
          cases i with
          | zero => exact .inl ⟨rfl, rfl, rfl⟩
          | succ i => exact .inr ⟨Nat.succ_pos i, rfl⟩
        rcases hob with ⟨hz, hfz, hob⟩ | ⟨hz, hob⟩
        · rw [hfz] at hfi
          rw [List.nil_append] at hfi
          rcases key with ⟨e, hw, hm⟩ | ⟨e, hw, hm⟩
          · have k1 : ((i : Int) == (p : Int)) = true := by simp [e]
            have k2 : ¬ ((i : Int) < (p : Int)) := by omega
            cases wb : whT l c i with
            | false =>
              rw [wb] at hw
              simp only [hob, wb, k1, k2, c5, c6, c7, hcy, y0, y1, hay, hoy, hfy, lf2, lo2, hp, z0, hd0, nn, q1, q2, drs_len, ints_len, ints_snoc, Int.toNat_natCast, Qs, if_true, if_false, reduceCtorEq, forall_eq, bne_iff_ne, ne_eq, List.mem_cons, Nat.reduceAdd, Nat.reduceMul, Nat.reduceEqDiff, Nat.reduceLeDiff, Nat.reduceLT, Nat.reduceBEq, List.not_mem_nil, vv f15r10.eq_1, vv f15r11.eq_1, uu f15b12.eq_1, vv f15r13.eq_1, uu f15b14.eq_1, vv f15r15.eq_1, uu f15b16.eq_1, vv f15r17.eq_1, uu f15b18.eq_1, vv f15r19.eq_1, uu f15b20.eq_1, uu f15b21.eq_1, uu f15b22.eq_1, uu f15b23.eq_1, uu f15b24.eq_1, vv f15r25.eq_1, uu f15b26.eq_1]
              exact Next.intro (i + 1) (by simp only [hw]; rfl) (by simp only [obK, hfi, hm]; rfl) (by omega) hMeas
            | true =>
              rw [wb] at hw
              simp only [hob, wb, k1, k2, c5, c6, c7, hcy, y0, y1, hay, hoy, hfy, lf2, lo2, hp, z0, hd0, nn, q1, q2, drs_len, ints_len, ints_snoc, Int.toNat_natCast, Qs, if_true, if_false, reduceCtorEq, forall_eq, bne_iff_ne, ne_eq, List.mem_cons, Nat.reduceAdd, Nat.reduceMul, Nat.reduceEqDiff, Nat.reduceLeDiff, Nat.reduceLT, Nat.reduceBEq, List.not_mem_nil, vv f15r10.eq_1, vv f15r11.eq_1, uu f15b12.eq_1, vv f15r13.eq_1, uu f15b14.eq_1, vv f15r15.eq_1, uu f15b16.eq_1, vv f15r17.eq_1, uu f15b18.eq_1, vv f15r19.eq_1, uu f15b20.eq_1, uu f15b21.eq_1, uu f15b22.eq_1, uu f15b23.eq_1, uu f15b24.eq_1, vv f15r25.eq_1, uu f15b26.eq_1]
              exact Next.intro (i + 1) (by simp only [hw]; rfl) (by simp only [obK, hfi, hm]; rfl) (by omega) hMeas
          · have k1 : ((i : Int) == (p : Int)) = false := by simp; omega
            have k2 : (i : Int) < (p : Int) := by omega
            have cw : IntKind.i64.wrap (moT l c i + ownAt l y) = moT l c (i + 1) := by rw [hm]; exact wrap_in (by omega) (by omega)
            cases wb : whT l c i with
            | false =>
              rw [wb, Bool.false_and] at hw
              simp only [hob, wb, k1, k2, cw, c5, c6, c7, hcy, y0, y1, hay, hoy, hfy, lf2, lo2, hp, z0, hd0, nn, q1, q2, drs_len, ints_len, ints_snoc, Int.toNat_natCast, Qs, if_true, if_false, reduceCtorEq, forall_eq, bne_iff_ne, ne_eq, List.append_nil, List.mem_cons, Nat.reduceAdd, Nat.reduceMul, Nat.reduceEqDiff, Nat.reduceLeDiff, Nat.reduceLT, Nat.reduceBEq, List.not_mem_nil, vv f15r10.eq_1, vv f15r11.eq_1, uu f15b12.eq_1, vv f15r13.eq_1, uu f15b14.eq_1, vv f15r15.eq_1, uu f15b16.eq_1, vv f15r17.eq_1, uu f15b18.eq_1, vv f15r19.eq_1, uu f15b20.eq_1, uu f15b21.eq_1, uu f15b22.eq_1, uu f15b23.eq_1, uu f15b24.eq_1, vv f15r25.eq_1, uu f15b26.eq_1]
              exact Next.intro (i + 1) (by simp only [hw]; rfl) (by simp only [obK, hfi, ]; rfl) (by omega) hMeas
            | true =>
              rw [wb, Bool.true_and] at hw
              by_cases k3 : firstG l y < c.headD (-1)
              · rw [decide_eq_true k3] at hw
                simp only [hob, wb, k1, k2, k3, cw, c5, c6, c7, hcy, y0, y1, hay, hoy, hfy, lf2, lo2, hp, z0, hd0, nn, q1, q2, drs_len, ints_len, ints_snoc, Int.toNat_natCast, Qs, if_true, if_false, reduceCtorEq, forall_eq, bne_iff_ne, ne_eq, Int.reduceNeg, List.append_nil, List.mem_cons, Nat.reduceAdd, Nat.reduceMul, Nat.reduceEqDiff, Nat.reduceLeDiff, Nat.reduceLT, Nat.reduceBEq, Int.reduceLE, List.not_mem_nil, vv f15r10.eq_1, vv f15r11.eq_1, uu f15b12.eq_1, vv f15r13.eq_1, uu f15b14.eq_1, vv f15r15.eq_1, uu f15b16.eq_1, vv f15r17.eq_1, uu f15b18.eq_1, vv f15r19.eq_1, uu f15b20.eq_1, uu f15b21.eq_1, uu f15b22.eq_1, uu f15b23.eq_1, uu f15b24.eq_1, vv f15r25.eq_1, uu f15b26.eq_1]
                exact Next.intro (i + 1) (by simp only [hw]; rfl) (by simp only [obK, hfi, ]; rfl) (by omega) hMeas
              · rw [decide_eq_false k3] at hw
                simp only [hob, wb, k1, k2, k3, cw, c5, c6, c7, hcy, y0, y1, hay, hoy, hfy, lf2, lo2, hp, z0, hd0, nn, q1, q2, drs_len, ints_len, ints_snoc, Int.toNat_natCast, Qs, if_true, if_false, reduceCtorEq, forall_eq, bne_iff_ne, ne_eq, Int.reduceNeg, List.append_nil, List.mem_cons, Nat.reduceAdd, Nat.reduceMul, Nat.reduceEqDiff, Nat.reduceLeDiff, Nat.reduceLT, Nat.reduceBEq, Int.reduceLE, List.not_mem_nil, vv f15r10.eq_1, vv f15r11.eq_1, uu f15b12.eq_1, vv f15r13.eq_1, uu f15b14.eq_1, vv f15r15.eq_1, uu f15b16.eq_1, vv f15r17.eq_1, uu f15b18.eq_1, vv f15r19.eq_1, uu f15b20.eq_1, uu f15b21.eq_1, uu f15b22.eq_1, uu f15b23.eq_1, uu f15b24.eq_1, vv f15r25.eq_1, uu f15b26.eq_1]
                exact Next.intro (i + 1) (by simp only [hw]; rfl) (by simp only [obK, hfi, ]; rfl) (by omega) hMeas
        · skip
          rcases key with ⟨e, hw, hm⟩ | ⟨e, hw, hm⟩
          · have k1 : ((i : Int) == (p : Int)) = true := by simp [e]
            have k2 : ¬ ((i : Int) < (p : Int)) := by omega
            cases wb : whT l c i with
            | false =>
              rw [wb] at hw
              simp only [hob, wb, k1, k2, c5, c6, c7, hcy, y0, y1, hay, hoy, hfy, lf2, lo2, hp, z0, hd0, nn, q1, q2, drs_len, ints_len, ints_snoc, Int.toNat_natCast, Qs, if_true, if_false, reduceCtorEq, forall_eq, List.mem_cons, Nat.reduceAdd, Nat.reduceEqDiff, Nat.reduceLeDiff, Nat.reduceLT, Nat.reduceBEq, List.not_mem_nil, vv f15r10.eq_1, vv f15r11.eq_1, uu f15b12.eq_1, vv f15r13.eq_1, uu f15b14.eq_1, vv f15r15.eq_1, uu f15b16.eq_1, vv f15r17.eq_1, uu f15b18.eq_1, vv f15r19.eq_1, uu f15b20.eq_1, uu f15b21.eq_1, uu f15b22.eq_1, uu f15b23.eq_1, uu f15b24.eq_1, vv f15r25.eq_1, uu f15b26.eq_1]
              exact Next.intro (i + 1) (by simp only [hw]; rfl) (by simp only [obK, hfi, hm]; rfl) (by omega) hMeas
            | true =>
              rw [wb] at hw
              simp only [hob, wb, k1, k2, c5, c6, c7, hcy, y0, y1, hay, hoy, hfy, lf2, lo2, hp, z0, hd0, nn, q1, q2, drs_len, ints_len, ints_snoc, Int.toNat_natCast, Qs, if_true, if_false, reduceCtorEq, forall_eq, List.mem_cons, Nat.reduceAdd, Nat.reduceEqDiff, Nat.reduceLeDiff, Nat.reduceLT, Nat.reduceBEq, List.not_mem_nil, vv f15r10.eq_1, vv f15r11.eq_1, uu f15b12.eq_1, vv f15r13.eq_1, uu f15b14.eq_1, vv f15r15.eq_1, uu f15b16.eq_1, vv f15r17.eq_1, uu f15b18.eq_1, vv f15r19.eq_1, uu f15b20.eq_1, uu f15b21.eq_1, uu f15b22.eq_1, uu f15b23.eq_1, uu f15b24.eq_1, vv f15r25.eq_1, uu f15b26.eq_1]
              exact Next.intro (i + 1) (by simp only [hw]; rfl) (by simp only [obK, hfi, hm]; rfl) (by omega) hMeas
          · have k1 : ((i : Int) == (p : Int)) = false := by simp; omega
            have k2 : (i : Int) < (p : Int) := by omega
            have cw : IntKind.i64.wrap (moT l c i + ownAt l y) = moT l c (i + 1) := by rw [hm]; exact wrap_in (by omega) (by omega)
            cases wb : whT l c i with
            | false =>
              rw [wb, Bool.false_and] at hw
              simp only [hob, wb, k1, k2, cw, c5, c6, c7, hcy, y0, y1, hay, hoy, hfy, lf2, lo2, hp, z0, hd0, nn, q1, q2, drs_len, ints_len, ints_snoc, Int.toNat_natCast, Qs, if_true, if_false, reduceCtorEq, forall_eq, List.append_nil, List.mem_cons, Nat.reduceAdd, Nat.reduceEqDiff, Nat.reduceLeDiff, Nat.reduceLT, Nat.reduceBEq, List.not_mem_nil, vv f15r10.eq_1, vv f15r11.eq_1, uu f15b12.eq_1, vv f15r13.eq_1, uu f15b14.eq_1, vv f15r15.eq_1, uu f15b16.eq_1, vv f15r17.eq_1, uu f15b18.eq_1, vv f15r19.eq_1, uu f15b20.eq_1, uu f15b21.eq_1, uu f15b22.eq_1, uu f15b23.eq_1, uu f15b24.eq_1, vv f15r25.eq_1, uu f15b26.eq_1]
              exact Next.intro (i + 1) (by simp only [hw]; rfl) (by simp only [obK, hfi, ]; rfl) (by omega) hMeas
            | true =>
              rw [wb, Bool.true_and] at hw
              by_cases k3 : firstG l y < c.headD (-1)
              · rw [decide_eq_true k3] at hw
                simp only [hob, wb, k1, k2, k3, cw, c5, c6, c7, hcy, y0, y1, hay, hoy, hfy, lf2, lo2, hp, z0, hd0, nn, q1, q2, drs_len, ints_len, ints_snoc, Int.toNat_natCast, Qs, if_true, if_false, reduceCtorEq, forall_eq, Int.reduceNeg, List.append_nil, List.mem_cons, Nat.reduceAdd, Nat.reduceEqDiff, Nat.reduceLeDiff, Nat.reduceLT, Nat.reduceBEq, Int.reduceLE, List.not_mem_nil, vv f15r10.eq_1, vv f15r11.eq_1, uu f15b12.eq_1, vv f15r13.eq_1, uu f15b14.eq_1, vv f15r15.eq_1, uu f15b16.eq_1, vv f15r17.eq_1, uu f15b18.eq_1, vv f15r19.eq_1, uu f15b20.eq_1, uu f15b21.eq_1, uu f15b22.eq_1, uu f15b23.eq_1, uu f15b24.eq_1, vv f15r25.eq_1, uu f15b26.eq_1]
                exact Next.intro (i + 1) (by simp only [hw]; rfl) (by simp only [obK, hfi, ]; rfl) (by omega) hMeas
              · rw [decide_eq_false k3] at hw
                simp only [hob, wb, k1, k2, k3, cw, c5, c6, c7, hcy, y0, y1, hay, hoy, hfy, lf2, lo2, hp, z0, hd0, nn, q1, q2, drs_len, ints_len, ints_snoc, Int.toNat_natCast, Qs, if_true, if_false, reduceCtorEq, forall_eq, Int.reduceNeg, List.append_nil, List.mem_cons, Nat.reduceAdd, Nat.reduceEqDiff, Nat.reduceLeDiff, Nat.reduceLT, Nat.reduceBEq, Int.reduceLE, List.not_mem_nil, vv f15r10.eq_1, vv f15r11.eq_1, uu f15b12.eq_1, vv f15r13.eq_1, uu f15b14.eq_1, vv f15r15.eq_1, uu f15b16.eq_1, vv f15r17.eq_1, uu f15b18.eq_1, vv f15r19.eq_1, uu f15b20.eq_1, uu f15b21.eq_1, uu f15b22.eq_1, uu f15b23.eq_1, uu f15b24.eq_1, vv f15r25.eq_1, uu f15b26.eq_1]
                exact Next.intro (i + 1) (by simp only [hw]; rfl) (by simp only [obK, hfi, ]; rfl) (by omega) hMeas
      · obtain rfl : i = p + 1 := by omega
        have c5 : ¬ (((p + 1 : Nat) : Int) < ((p + 1 : Nat) : Int)) := by omega
        have hend : rawT l (n + 1) = if whT l c (p + 1) = true then rawT l n ++ [⟨c, fiT l c (p + 1), moT l c (p + 1)⟩] else rawT l n := by rw [← hp]; exact hr1
        cases wb : whT l c (p + 1) with
        | false =>
          rw [wb, if_neg (by simp)] at hend
          simp only [obK, wb, c4, c5, Qs, if_true, if_false, reduceCtorEq, Nat.reduceEqDiff, Nat.reduceBEq, vv f15r6.eq_1, uu f15b7.eq_1, vv f15r8.eq_1, uu f15b9.eq_1, uu f15b23.eq_1, uu f15b24.eq_1, vv f15r25.eq_1, uu f15b26.eq_1]
          exact Next.intro (n + 1, nl) rfl (by simp only [hend]; rfl) ⟨hlt, by show (rawT l (n + 1)).length ≤ n + 1; rw [hend]; omega⟩ (by show l.length - (n + 1) < l.length - n; omega)
        | true =>
          rw [wb, if_pos rfl] at hend
          have r1 : (rawT l n).length + 1 ≤ 9223372036854775807 := by omega
          have r2 : ((rawT l n).length + 1) * 56 ≤ 140737488355328 := by omega
          have hsn : kisF (rawT l n) ++ [[.list 1 (some false) (ints c), .list 1 (some false) (ints (fiT l c (p + 1))), .int .i64 (moT l c (p + 1))]] = kisF (rawT l (n + 1)) := by rw [hend, ← kisF_snoc]; rfl
          simp only [obK, wb, c4, c5, r1, r2, kisF_len, hsn, Qs, if_true, if_false, reduceCtorEq, forall_eq, bne_iff_ne, ne_eq, List.mem_cons, Nat.reduceAdd, Nat.reduceEqDiff, Nat.reduceLT, Nat.reduceBEq, List.not_mem_nil, vv f15r6.eq_1, uu f15b7.eq_1, vv f15r8.eq_1, uu f15b9.eq_1, uu f15b23.eq_1, uu f15b24.eq_1, vv f15r25.eq_1, uu f15b26.eq_1]
          exact Next.intro (n + 1, some false) rfl rfl ⟨hlt, by show (rawT l (n + 1)).length ≤ n + 1; rw [hend]; simp; omega⟩ (by show l.length - (n + 1) < l.length - n; omega)
  · obtain rfl : n = l.length := by omega
    have c1 : ¬ (l.length : Int) < l.length := by omega
    simp only [c1, Qs, if_true, Nat.reduceBEq, vv f15r3.eq_1, uu f15b4.eq_1, uu f15b50.eq_1, uu f15b51.eq_1, vv f15r52.eq_1, uu f15b53.eq_1]
    have hrl : ∀ x ∈ rawT l l.length, x.dr.length ≤ 1000 := by
      intro x hx
      obtain ⟨y, hy, rfl⟩ := List.mem_map.1 hx
      have hy := rangeI_mem.1 (List.mem_filter.1 hy).1
      have := closG_len hR.cov hy.1 (by omega : y < l.length)
      show (closG l y).length ≤ 1000
      omega
    have g32 := d32 5 (rawT l l.length) (by omega) hrl
    refine call_sortF (Q := fun out => out.Perm (rawT l l.length) ∧ out.Pairwise fun x y => ltK y x = false) (kisF (rawT l l.length)) (rawT l l.length) (g32.mono fun r o ⟨h1, out, h2, h3, h4⟩ => ⟨h1, out, ⟨h2, h3⟩, h4⟩) rfl (normRows_kisF _) ?_
    rintro out ⟨hp, hs⟩
    have := kites_eq hR.cov (l := l) (out := out) hp hs
    rw [this]
    simp only [Qs, q_V_nrm_eq_4, q_V_nrmL_eq_1, if_true, List.nodup_nil, List.nodup_cons, Nat.reduceBEq, List.not_mem_nil, vv f15r1.eq_1, uu f15b2.eq_1]
    refine hS _ ?_
    have e1 : C.normRows (List.map encKi (kitesR l)) = kis (kitesR l) := normRows_kis _
    simp [V.fz, V.nrm, Abs.K.fz, Abs.K.nrm, norm_list, e1, normRows_kis]
end Go.Abs


set_option maxRecDepth 100000
set_option maxHeartbeats 4000000
namespace Go.Abs
open Go.Proofs Go.RowKit
theorem call_s1 {P : Program} {f : FuncId} {vs : List V} {K : KK} {d : Nat} {ts : TS} {os : OS} {args : List V} {r : V} (hs : Spec P f args (fun r' => r' = r)) (hk : K (insT d r ts) os)
    (hp : vs.all (fun v => (lendL os v).isPure) = true := by simp [lendL, lendO, lookO, V.isPure])
    (ha : vs.map (fun v => (lendL os v).norm) = args := by simp [lendL, lendO, lookO, V.norm, norm_list, lst]) (hr : r.scalar = true := by rfl) : callK P f vs [] K (some d) ts os :=
  (call_s (X := False) hs hk hp ha hr).elim id False.elim
theorem take_ne {a b : List Int} {i : Nat} (hl : a.length = b.length) (hi : i < a.length) (h : a[i] ≠ b[i]'(by omega)) : a ≠ b := by
  intro e; subst e; exact h rfl
theorem take_next {a b : List Int} {i : Nat} (hl : a.length = b.length) (hi : i < a.length) (h0 : a.take i = b.take i) (h : a[i] = b[i]'(by omega)) : a.take (i + 1) = b.take (i + 1) := by
  rw [List.take_succ_eq_append_getElem hi, List.take_succ_eq_append_getElem (by omega), h0, h]
theorem e19 (a b : List Int) : Spec Try.prog 19 [lst 1 (ints a), lst 1 (ints b)] (fun r => r = .bool (decide (a = b))) := by
  refine Spec.of_len hf19 fun hlen => ?_
  have hl := len_lst (sz := 1) (rows := ints a) (by simp) hlen
  rw [ints_len] at hl
  clear hlen
  refine Spec.of_awlS hf19 okf19 (by simp) fun S hS => ?_
  by_cases he : a.length = b.length
  case neg =>
    have h1 : ((a.length : Int) != (b.length : Int)) = true := by simp; omega
    simp only [h1, ints_len, Qs, if_true, List.nodup_nil, Nat.reduceAdd, Nat.reduceBEq, uu f19.eq_1, vv f19r20.eq_1, uu f19b21.eq_1, uu f19b22.eq_1, vv f19r23.eq_1, uu f19b24.eq_1, uu f19b25.eq_1, vv f19r26.eq_1, uu f19b27.eq_1]
    exact fin hS (by rw [decide_eq_false (fun e => he (by rw [e]))])
  have h1 : ((a.length : Int) != (b.length : Int)) = false := by simp [he]
  simp only [h1, ints_len, Qs, if_true, Nat.reduceAdd, Nat.reduceBEq, uu f19.eq_1, uu f19b16.eq_1, vv f19r17.eq_1, uu f19b18.eq_1, uu f19b19.eq_1, uu f19b22.eq_1, vv f19r23.eq_1, uu f19b24.eq_1, uu f19b25.eq_1, vv f19r26.eq_1, uu f19b27.eq_1]
  rw [uu f19l15.eq_1]
  refine awl_loop (fun i : Nat => [(0, lst 1 (ints a)), (1, lst 1 (ints b)), (5, .int .i64 i)]) (fun _ => []) (fun i => i ≤ a.length ∧ a.take i = b.take i) (fun i => a.length - i) 0 rfl rfl ⟨Nat.zero_le _, rfl⟩ ?_
  rintro i ⟨hi, hd⟩
  by_cases hlt : i < a.length
  · have c1 : (i : Int) < a.length := by omega
    have c2 : (i : Int) < b.length := by omega
    have c3 : (0 : Int) ≤ (i : Int) := by omega
    have c4 : IntKind.i64.wrap ((i : Int) + 1) = (i : Int) + 1 := wrap_in (by omega) (by omega)
    have hb : i < b.length := by omega
    by_cases e : a[i] = b[i]
    · have e' : (a[i] != b[i]) = false := by simp [e]
      simp only [c1, c2, c3, c4, e', ints_len, ints_at hlt, ints_at hb, Int.toNat_natCast, Qs, if_true, Nat.reduceBEq, vv f19r3.eq_1, uu f19b6.eq_1, vv f19r7.eq_1, uu f19b8.eq_1, uu f19b9.eq_1, uu f19b10.eq_1, uu f19b11.eq_1, vv f19r12.eq_1, uu f19b13.eq_1, uu f19b14.eq_1]
      exact Next.intro (i + 1) rfl rfl ⟨by omega, take_next he hlt hd e⟩ (by omega)
    · have e' : (a[i] != b[i]) = true := by simp [e]
      simp only [c1, c2, c3, c4, e', ints_len, ints_at hlt, ints_at hb, Int.toNat_natCast, Qs, if_true, List.nodup_nil, Nat.reduceBEq, vv f19r3.eq_1, vv f19r4.eq_1, uu f19b5.eq_1, uu f19b6.eq_1, vv f19r7.eq_1, uu f19b8.eq_1, uu f19b9.eq_1, uu f19b10.eq_1, uu f19b11.eq_1, vv f19r12.eq_1, uu f19b13.eq_1, uu f19b14.eq_1]
      exact fin hS (by rw [decide_eq_false (take_ne he hlt e)])
  · obtain rfl : i = a.length := by omega
    have c1 : ¬ (a.length : Int) < a.length := by omega
    rw [List.take_length, he, List.take_length] at hd
    simp only [c1, ints_len, Qs, if_true, List.nodup_nil, Nat.reduceBEq, vv f19r1.eq_1, uu f19b2.eq_1, uu f19b11.eq_1, vv f19r12.eq_1, uu f19b13.eq_1, uu f19b14.eq_1]
    exact fin hS (by rw [decide_eq_true hd])
theorem e40 (a b : List Int) : Spec Try.prog 40 [lst 1 (ints a), lst 1 (ints b)] (fun r => r = .bool (decide (a = b))) := by
  refine Spec.of_len hf40 fun hlen => ?_
  have hl := len_lst (sz := 1) (rows := ints a) (by simp) hlen
  rw [ints_len] at hl
  clear hlen
  refine Spec.of_awlS hf40 okf40 (by simp) fun S hS => ?_
  by_cases he : a.length = b.length
  case neg =>
    have h1 : ((a.length : Int) != (b.length : Int)) = true := by simp; omega
    simp only [h1, ints_len, Qs, if_true, List.nodup_nil, Nat.reduceAdd, Nat.reduceBEq, uu f40.eq_1, vv f40r22.eq_1, uu f40b23.eq_1, uu f40b24.eq_1, vv f40r25.eq_1, uu f40b26.eq_1, uu f40b27.eq_1, vv f40r28.eq_1, uu f40b29.eq_1]
    exact fin hS (by rw [decide_eq_false (fun e => he (by rw [e]))])
  have h1 : ((a.length : Int) != (b.length : Int)) = false := by simp [he]
  simp only [h1, ints_len, Qs, if_true, Nat.reduceAdd, Nat.reduceBEq, uu f40.eq_1, uu f40b18.eq_1, vv f40r19.eq_1, uu f40b20.eq_1, uu f40b21.eq_1, uu f40b24.eq_1, vv f40r25.eq_1, uu f40b26.eq_1, uu f40b27.eq_1, vv f40r28.eq_1, uu f40b29.eq_1]
  rw [uu f40l17.eq_1]
  refine awl_loop (fun i : Nat => [(0, lst 1 (ints a)), (1, lst 1 (ints b)), (12, .int .i64 a.length), (13, .int .i64 i)]) (fun _ => []) (fun i => i ≤ a.length ∧ a.take i = b.take i) (fun i => a.length - i) 0 rfl rfl ⟨Nat.zero_le _, rfl⟩ ?_
  rintro i ⟨hi, hd⟩
  by_cases hlt : i < a.length
  · have c1 : (i : Int) < a.length := by omega
    have c2 : (i : Int) < b.length := by omega
    have c3 : (0 : Int) ≤ (i : Int) := by omega
    have c4 : IntKind.i64.wrap ((i : Int) + 1) = (i : Int) + 1 := wrap_in (by omega) (by omega)
    have hb : i < b.length := by omega
    by_cases e : a[i] = b[i]
    · have e' : (a[i] != b[i]) = false := by simp [e]
      simp only [c1, c2, c3, c4, e', ints_len, ints_at hlt, ints_at hb, Int.toNat_natCast, Qs, if_true, Nat.reduceBEq, vv f40r3.eq_1, uu f40b6.eq_1, vv f40r7.eq_1, uu f40b8.eq_1, vv f40r9.eq_1, uu f40b10.eq_1, uu f40b11.eq_1, uu f40b12.eq_1, uu f40b13.eq_1, uu f40b14.eq_1, vv f40r15.eq_1, uu f40b16.eq_1]
      exact Next.intro (i + 1) rfl rfl ⟨by omega, take_next he hlt hd e⟩ (by omega)
    · have e' : (a[i] != b[i]) = true := by simp [e]
      simp only [c1, c2, c3, c4, e', ints_len, ints_at hlt, ints_at hb, Int.toNat_natCast, Qs, if_true, List.nodup_nil, Nat.reduceBEq, vv f40r3.eq_1, vv f40r4.eq_1, uu f40b5.eq_1, uu f40b6.eq_1, vv f40r7.eq_1, uu f40b8.eq_1, vv f40r9.eq_1, uu f40b10.eq_1, uu f40b11.eq_1, uu f40b12.eq_1, uu f40b13.eq_1, uu f40b14.eq_1, vv f40r15.eq_1, uu f40b16.eq_1]
      exact fin hS (by rw [decide_eq_false (take_ne he hlt e)])
  · obtain rfl : i = a.length := by omega
    have c1 : ¬ (a.length : Int) < a.length := by omega
    rw [List.take_length, he, List.take_length] at hd
    simp only [c1, ints_len, Qs, if_true, List.nodup_nil, Nat.reduceBEq, vv f40r1.eq_1, uu f40b2.eq_1, uu f40b13.eq_1, uu f40b14.eq_1, vv f40r15.eq_1, uu f40b16.eq_1]
    exact fin hS (by rw [decide_eq_true hd])
theorem e30 (a b : Ki) : Spec Try.prog 30 [.agg (encKi a), .agg (encKi b)] (fun r => r = .bool (eqKi a b)) := by
  refine Spec.of_awlS hf30 okf30 (by simp) fun S hS => ?_
  unfold eqKi at hS
  by_cases h1 : a.mo = b.mo
  case neg =>
    have h1' : (a.mo == b.mo) = false := by simpa using h1
    rw [decide_eq_false h1, Bool.and_false, Bool.and_false] at hS
    simp only [encKi, h1', Qs, if_true, if_false, bne_iff_ne, ne_eq, List.nodup_nil, Nat.reduceAdd, Nat.reduceEqDiff, Nat.reduceBEq, uu f30.eq_1, vv f30r1.eq_1, uu f30b2.eq_1, vv f30r3.eq_1, uu f30b4.eq_1]
    exact hS
  have h1' : (a.mo == b.mo) = true := by simpa using h1
  rw [decide_eq_true h1, Bool.and_true] at hS
  simp only [encKi, h1', normRows_ints, Qs, if_true, if_false, bne_iff_ne, ne_eq, Nat.reduceAdd, Nat.reduceEqDiff, Nat.reduceLeDiff, Nat.reduceBEq, uu f30.eq_1, vv f30r1.eq_1, uu f30b2.eq_1, vv f30r3.eq_1, uu f30b4.eq_1]
  refine call_s (e19 a.dr b.dr) ?_ (ha := by simp [lendL, V.norm, lst])
  by_cases h2 : a.dr = b.dr
  case neg =>
    rw [decide_eq_false h2, Bool.false_and] at hS
    simp only [decide_eq_false h2, Qs, if_true, List.nodup_nil, Nat.reduceBEq]
    exact hS
  rw [decide_eq_true h2, Bool.true_and] at hS
  simp only [decide_eq_true h2, normRows_ints, Qs, if_true, if_false, Nat.reduceAdd, Nat.reduceLeDiff, Nat.reduceBEq]
  refine call_s (e19 a.fi b.fi) ?_ (ha := by simp [lendL, V.norm, lst])
  simp only [Qs, if_true, List.nodup_nil, Nat.reduceBEq]
  exact hS
def sameAll : List Ki → List Ki → Bool
  | [], [] => true
  | a :: x, b :: y => eqKi a b && sameAll x y
  | _, _ => false
theorem sameAll_len : ∀ {a b : List Ki}, a.length ≠ b.length → sameAll a b = false
  | [], [], h => absurd rfl h
  | [], _ :: _, _ => rfl
  | _ :: _, [], _ => rfl
  | a :: x, b :: y, h => by rw [sameAll, sameAll_len (by simpa using h), Bool.and_false]
theorem sameAll_drop {a b : List Ki} {i : Nat} (h : i < a.length) (h2 : i < b.length) : sameAll (a.drop i) (b.drop i) = (eqKi a[i] b[i] && sameAll (a.drop (i + 1)) (b.drop (i + 1))) := by
  rw [List.drop_eq_getElem_cons h, List.drop_eq_getElem_cons h2, sameAll]
theorem e14 (a b : List Ki) : Spec Try.prog 14 [lst 3 (kis a), lst 3 (kis b)] (fun r => r = .bool (sameAll a b)) := by
  refine Spec.of_len hf14 fun hlen => ?_
  have hl := len_lst (sz := 3) (rows := kis a) (by simp) hlen
  rw [kis_len] at hl
  clear hlen
  refine Spec.of_awlS hf14 okf14 (by simp) fun S hS => ?_
  by_cases he : a.length = b.length
  case neg =>
    have h1 : ((a.length : Int) != (b.length : Int)) = true := by simp; omega
    simp only [h1, kis_len, normRows_kis, Qs, if_true, List.nodup_nil, Nat.reduceAdd, Nat.reduceBEq, uu f14.eq_1, vv f14r20.eq_1, uu f14b21.eq_1, uu f14b22.eq_1, vv f14r23.eq_1, uu f14b24.eq_1, uu f14b25.eq_1, vv f14r26.eq_1, uu f14b27.eq_1]
    exact fin hS (by rw [sameAll_len he])
  have h1 : ((a.length : Int) != (b.length : Int)) = false := by simp [he]
  simp only [h1, kis_len, normRows_kis, Qs, if_true, Nat.reduceAdd, Nat.reduceBEq, uu f14.eq_1, uu f14b16.eq_1, vv f14r17.eq_1, uu f14b18.eq_1, uu f14b19.eq_1, uu f14b22.eq_1, vv f14r23.eq_1, uu f14b24.eq_1, uu f14b25.eq_1, vv f14r26.eq_1, uu f14b27.eq_1]
  rw [uu f14l15.eq_1]
  refine awl_loop (fun i : Nat => [(0, lst 3 (kis a)), (1, lst 3 (kis b)), (5, .int .i64 i)]) (fun _ => []) (fun i => i ≤ a.length ∧ sameAll (a.drop i) (b.drop i) = sameAll a b) (fun i => a.length - i) 0 rfl rfl ⟨Nat.zero_le _, rfl⟩ ?_
  rintro i ⟨hi, hd⟩
  by_cases hlt : i < a.length
  · have c1 : (i : Int) < a.length := by omega
    have c2 : (i : Int) < b.length := by omega
    have c3 : (0 : Int) ≤ (i : Int) := by omega
    have c4 : IntKind.i64.wrap ((i : Int) + 1) = (i : Int) + 1 := wrap_in (by omega) (by omega)
    have hb : i < b.length := by omega
    rw [sameAll_drop hlt hb] at hd
    simp only [c1, c2, c3, c4, kis_len, kis_at hlt, kis_at hb, normRows_kis, Int.toNat_natCast, Qs, if_true, Nat.reduceBEq, vv f14r3.eq_1, vv f14r7.eq_1, uu f14b8.eq_1, uu f14b9.eq_1, uu f14b10.eq_1, uu f14b11.eq_1, vv f14r12.eq_1, uu f14b13.eq_1, uu f14b14.eq_1]
    refine callQ_s (e30 a[i] b[i]) ?_ (ha := by simp [lendL, V.norm, normRow_encKi])
    cases hq : eqKi a[i] b[i] with
    | false =>
      rw [hq, Bool.false_and] at hd
      simp only [Qs, List.nodup_nil, vv f14r4.eq_1, uu f14b5.eq_1, uu f14b6.eq_1]
      exact fin hS (by rw [← hd])
    | true =>
      rw [hq, Bool.true_and] at hd
      simp only [c4, Qs, if_true, Nat.reduceBEq, uu f14b6.eq_1]
      exact Next.intro (i + 1) rfl rfl ⟨by omega, hd⟩ (by omega)
  · obtain rfl : i = a.length := by omega
    have c1 : ¬ (a.length : Int) < a.length := by omega
    rw [List.drop_length, List.drop_of_length_le (by omega)] at hd
    simp only [c1, kis_len, Qs, if_true, List.nodup_nil, Nat.reduceBEq, vv f14r1.eq_1, uu f14b2.eq_1, uu f14b11.eq_1, vv f14r12.eq_1, uu f14b13.eq_1, uu f14b14.eq_1]
    exact fin hS (by rw [← hd]; rfl)
theorem e39 (x k : Ki) : Spec Try.prog 39 [.agg (encKi x), .k (.c (.ro (encKi k) 0))] (fun r => r = .bool (eqKi x k)) := by
  refine Spec.of_awlS hf39 okf39 (by simp) fun S hS => ?_
  unfold eqKi at hS
  simp only [encKi, normRows_ints, Qs, if_false, Nat.reduceAdd, Nat.reduceLeDiff, Nat.reduceBEq, uu f39.eq_1, vv f39r1.eq_1, uu f39b2.eq_1, vv f39r3.eq_1, uu f39b4.eq_1]
  refine call_s (e40 x.dr k.dr) ?_ (ha := by simp [lendL, V.norm, lst])
  by_cases h2 : x.dr = k.dr
  case neg =>
    rw [decide_eq_false h2, Bool.false_and] at hS
    simp only [decide_eq_false h2, Qs, List.nodup_nil, Nat.reduceBEq]
    exact hS
  rw [decide_eq_true h2, Bool.true_and] at hS
  simp only [decide_eq_true h2, normRows_ints, Qs, if_false, Nat.reduceAdd, Nat.reduceLeDiff, Nat.reduceBEq]
  refine call_s (e40 x.fi k.fi) ?_ (ha := by simp [lendL, V.norm, lst])
  by_cases h3 : x.fi = k.fi
  case neg =>
    rw [decide_eq_false h3, Bool.false_and] at hS
    simp only [decide_eq_false h3, Qs, if_true, List.nodup_nil, Nat.reduceBEq]
    exact hS
  rw [decide_eq_true h3, Bool.true_and] at hS
  by_cases h4 : x.mo = k.mo
  · have h4' : (x.mo == k.mo) = true := by simpa using h4
    rw [decide_eq_true h4] at hS
    simp only [decide_eq_true h3, h4', Qs, if_true, if_false, List.nodup_nil, Nat.reduceAdd, Nat.reduceBEq]
    exact hS
  · have h4' : (x.mo == k.mo) = false := by simpa using h4
    rw [decide_eq_false h4] at hS
    simp only [decide_eq_true h3, h4', Qs, if_true, if_false, List.nodup_nil, Nat.reduceAdd, Nat.reduceBEq]
    exact hS
def idxK (k : Ki) : List Ki → Nat → Int
  | [], _ => -1
  | a :: l, i => if eqKi a k = true then i else idxK k l (i + 1)
theorem idxK_drop {k : Ki} {l : List Ki} {i : Nat} (h : i < l.length) : idxK k (l.drop i) i = if eqKi l[i] k = true then (i : Int) else idxK k (l.drop (i + 1)) (i + 1) := by
  rw [List.drop_eq_getElem_cons h, idxK]
theorem idxK_pos (k : Ki) : ∀ (l : List Ki) (i : Nat), idxK k l i ≥ 0 ↔ provesG l k = true
  | [], i => by simp [idxK, provesG]
  | a :: l, i => by
    rw [idxK]
    by_cases h : eqKi a k = true
    · rw [if_pos h]; simp [h, provesG]
    · rw [if_neg h, idxK_pos k l (i + 1)]; simp [h, provesG]
theorem e49 (l : List Ki) (k : Ki) : Spec Try.prog 49 [lst 3 (kis l), .k (.c (.fn 39 [.ro (encKi k) 0]))] (fun r => r = .int .i64 (idxK k l 0)) := by
  refine Spec.of_len hf49 fun hlen => ?_
  have hl := len_lst (sz := 3) (rows := kis l) List.mem_cons_self hlen
  rw [kis_len] at hl
  clear hlen
  refine Spec.of_awlS hf49 okf49 (by simp) fun S hS => ?_
  simp only [kis_len, normRows_kis, Qs, Nat.reduceAdd, Nat.reduceBEq, uu f49.eq_1, uu f49b18.eq_1, vv f49r19.eq_1, uu f49b20.eq_1, uu f49b21.eq_1, vv f49r22.eq_1, uu f49b23.eq_1]
  rw [uu f49l17.eq_1]
  refine awl_loop (fun i : Nat => [(0, lst 3 (kis l)), (1, .k (.c (.fn 39 [.ro (encKi k) 0]))), (7, .int .i64 l.length), (8, .int .i64 i)]) (fun _ => []) (fun i => i ≤ l.length ∧ idxK k (l.drop i) i = idxK k l 0) (fun i => l.length - i) 0 rfl rfl ⟨Nat.zero_le _, rfl⟩ ?_
  rintro i ⟨hi, hn⟩
  by_cases hlt : i < l.length
  · have c1 : (i : Int) < l.length := by omega
    have c4 : IntKind.i64.wrap ((i : Int) + 1) = (i : Int) + 1 := wrap_in (by omega) (by omega)
    rw [idxK_drop hlt] at hn
    simp only [c1, c4, kis_len, kis_at hlt, normRows_kis, Qs, q_exL_eq_29, if_true, Nat.reduceBEq, vv f49r3.eq_1, vv f49r7.eq_1, uu f49b8.eq_1, vv f49r9.eq_1, uu f49b10.eq_1, uu f49b11.eq_1, uu f49b12.eq_1, uu f49b13.eq_1, uu f49b14.eq_1, vv f49r15.eq_1, uu f49b16.eq_1]
    refine call_c (e39 l[i] k) ?_ (ha := by simp [lendL, V.norm, normRow_encKi])
    by_cases he : eqKi l[i] k = true
    · rw [if_pos he] at hn
      simp only [he, Qs, List.nodup_nil, Nat.reduceBEq, vv f49r4.eq_1, uu f49b5.eq_1, uu f49b6.eq_1]
      exact fin hS (by rw [← hn])
    · rw [if_neg he] at hn
      simp only [he, c4, Qs, if_true, Nat.reduceBEq, uu f49b6.eq_1]
      exact Next.intro (i + 1) rfl rfl ⟨by omega, hn⟩ (by omega)
  · obtain rfl : i = l.length := by omega
    have c1 : ¬ (l.length : Int) < l.length := by omega
    simp only [c1, kis_len, Qs, if_true, Int.reduceNeg, List.nodup_nil, Nat.reduceBEq, vv f49r1.eq_1, uu f49b2.eq_1, uu f49b13.eq_1, uu f49b14.eq_1, vv f49r15.eq_1, uu f49b16.eq_1]
    rw [List.drop_length] at hn
    exact fin hS (by rw [← hn]; rfl)
theorem e38 (l : List Ki) (k : Ki) : Spec Try.prog 38 [lst 3 (kis l), .k (.c (.fn 39 [.ro (encKi k) 0]))] (fun r => r = .bool (provesG l k)) := by
  refine Spec.of_awlS hf38 okf38 (by simp) fun S hS => ?_
  simp only [normRows_kis, Qs, Nat.reduceAdd, Nat.reduceBEq, uu f38.eq_1, vv f38r1.eq_1, uu f38b2.eq_1, vv f38r3.eq_1, uu f38b4.eq_1]
  refine call_s (e49 l k) ?_ (ha := by simp [lendL, V.norm, lst, normRows_kis, normRow_encKi])
  have h := idxK_pos k l 0
  cases hm : provesG l k with
  | true =>
    have h1 := h.2 hm
    rw [hm] at hS
    simp only [h1, Qs, if_true, List.nodup_nil]
    exact hS
  | false =>
    have h1 : ¬ idxK k l 0 ≥ 0 := fun g => by rw [h.1 g] at hm; cases hm
    rw [hm] at hS
    simp only [h1, Qs, if_true, List.nodup_nil]
    exact hS
def kitesG (l : List Dr) : List Ki := if chkG l = 0 then kitesR l else []
theorem e17 (l : List Dr) (k : Ki) : Spec Try.prog 17 [lst 6 (drs l), .agg (encKi k)] (fun r => r = .bool (provesG (kitesG l) k)) := by
  refine Spec.of_awlS hf17 okf17 (by simp) fun S hS => ?_
  have g15 : Spec Try.prog 15 [lst 6 (drs l)] (fun r => r = lst 3 (kis (kitesG l))) := d15 l
  simp only [encKi, normRows_drs, normRows_ints, Qs, Nat.reduceAdd, Nat.reduceBEq, uu f17.eq_1, vv f17r1.eq_1, uu f17b2.eq_1, vv f17r3.eq_1, uu f17b4.eq_1]
  refine call_r g15 ?_ (ha := by simp [lendL, V.norm, lst, normRows_drs])
  simp only [normRows_kis, Qs, q_exL_eq_17, Nat.reduceBEq, z_capP, z_caps_nil, z_caps_ptr, z_fnV, z_fnP2, z_pureCaps_tok]
  refine call_f 3 (by simp [look, lookT]) (by simp [V.hard, V.toks, Abs.K.toks, Cap.toks]) (by simp [lookO, plainO, Abs.K.toks]) ?_
  simp only [normRows_kis, Qs, if_true, Nat.reduceBEq, q_roK_1, q_fnkF_1, q_capR_1, z_K_ptr, z_K_fnk, z_Cap_tok, z_pureCaps_nil, z_pureCaps_ro]
  refine call_s1 (e38 (kitesG l) k) ?_ (ha := by simp [lendL, V.norm, lst, normRows_kis, encKi])
  simp only [Qs, List.nodup_nil]
  exact hS
def edgeE (l : List (Int × Int)) (a b : Int) : Bool := l.any fun p => decide (p.1 = a) && decide (p.2 = b)
def edgesD (l : List Dr) : List (Int × Int) := l.map fun x => (x.d, x.a)
theorem edgesD_len (l : List Dr) : (edgesD l).length = l.length := by simp [edgesD]
theorem edgesD_take {l : List Dr} {i : Nat} (h : i < l.length) : edgesD (l.take (i + 1)) = edgesD (l.take i) ++ [((dat l i).d, (dat l i).a)] := by
  unfold edgesD
  rw [List.take_succ_eq_append_getElem h, dat_nat h, List.map_append]; rfl
def ringG (l : List Dr) : List Int := if chkG l = 0 then cycleG 200 (edgesD l) else []
theorem e20 (l : List Dr) : Spec Try.prog 20 [lst 6 (drs l)] (fun r => r = lst 1 (ints (ringG l))) := by
  refine Spec.of_awlP hf20 okf20 (by simp) fun S hS => ?_
  unfold ringG at hS
  simp only [normRows_drs, Qs, Nat.reduceBEq, uu f20.eq_1, vv f20r23.eq_1, uu f20b24.eq_1, uu f20b25.eq_1, vv f20r26.eq_1, uu f20b27.eq_1]
  refine call_s (d10 l) ?_ (ha := by simp [lendL, lendO, lookO, V.norm, norm_list, lst, normRows_drs])
  by_cases h : chkG l = 0
  case neg =>
    have hb : (chkG l != 0) = true := by simpa using h
    rw [if_neg h] at hS
    simp only [hb, Qs, if_true, BEq.rfl, List.nodup_nil, List.nodup_cons, Nat.reduceBEq, List.not_mem_nil, vv f20r20.eq_1, uu f20b21.eq_1, uu f20b22.eq_1]
    exact hS _ rfl
  have hb : (chkG l != 0) = false := by simpa using h
  rw [if_pos h] at hS
  have hR := right_of h
  have hll := hR.len
  simp only [hb, drs_len, normRows_drs, Qs, if_true, bne_iff_ne, ne_eq, Nat.reduceEqDiff, Nat.reduceBEq, uu f20b14.eq_1, vv f20r15.eq_1, uu f20b16.eq_1, uu f20b17.eq_1, vv f20r18.eq_1, uu f20b19.eq_1, uu f20b22.eq_1]
  rw [uu f20l13.eq_1]
  refine awl_loop (fun x : Nat × Option Bool => [(3, .k (.own 3)), (9, lst 6 (drs l)), (10, .int .i64 l.length), (11, .int .i64 x.1)]) (fun x => [(3, .arr 59 2 x.2 (eds (edgesD (l.take x.1))))]) (fun x => x.1 ≤ l.length) (fun x => l.length - x.1) (0, some true) rfl rfl (Nat.zero_le _) ?_
  rintro ⟨i, nl⟩ hi
  simp only [] at hi
  by_cases hlt : i < l.length
  · have c1 : (i : Int) < l.length := by omega
    have c3 : (0 : Int) ≤ (i : Int) := by omega
    have c4 : IntKind.i64.wrap ((i : Int) + 1) = (i : Int) + 1 := wrap_in (by omega) (by omega)
    have hat := drs_nat hlt
    have hn := edgesD_take hlt
    have hle : (edgesD (l.take i)).length ≤ 100 := by rw [edgesD_len, List.length_take]; omega
    have q1 : (edgesD (l.take i)).length + 1 ≤ 9223372036854775807 := by omega
    have q2 : ((edgesD (l.take i)).length + 1) * 16 ≤ 140737488355328 := by omega
    simp only [c1, c3, c4, hat, q1, q2, drs_len, normRows_drs, eds_len, eds_snoc, Int.toNat_natCast, Qs, if_true, if_false, forall_eq, bne_iff_ne, ne_eq, List.append_nil, List.mem_cons, Nat.reduceAdd, Nat.reduceEqDiff, Nat.reduceLeDiff, Nat.reduceLT, Nat.reduceBEq, List.not_mem_nil, vv f20r3.eq_1, vv f20r4.eq_1, vv f20r5.eq_1, uu f20b6.eq_1, uu f20b7.eq_1, uu f20b8.eq_1, uu f20b9.eq_1, uu f20b10.eq_1, vv f20r11.eq_1, uu f20b12.eq_1]
    exact Next.intro (i + 1, some false) rfl (by simp only [hn]; rfl) (by show i + 1 ≤ l.length; omega) (by show l.length - (i + 1) < l.length - i; omega)
  · obtain rfl : i = l.length := by omega
    have c1 : ¬ (l.length : Int) < l.length := by omega
    have g41' := g41 200 (edgesD l)
    have hrg : rightG ((200 : Nat) : Int) (edgesD l) = true := by
      unfold rightG
      rw [Bool.and_eq_true, decide_eq_true_eq, List.all_eq_true, edgesD_len]
      refine ⟨by omega, fun p hp => ?_⟩
      obtain ⟨x, hx, rfl⟩ := List.mem_map.1 hp
      have := hR.firm x hx
      unfold edgeOk
      rw [decide_eq_true_eq]
      show 0 ≤ x.d ∧ x.d < _ ∧ 0 ≤ x.a ∧ x.a < _
      omega
    rw [hrg, if_pos rfl] at g41'
    rw [List.take_length]
    simp only [c1, drs_len, normRows_eds, Qs, if_true, Nat.reduceBEq, vv f20r1.eq_1, uu f20b2.eq_1, uu f20b9.eq_1, uu f20b10.eq_1, vv f20r11.eq_1, uu f20b12.eq_1]
    refine call_o 3 (by simp [look, lookT]) g41' (by simp [lendL, lendO, lookO, V.isPure]) (by simp [lendL, lendO, lookO, V.norm, norm_list, lst, normRows_eds]) (by simp [V.toks, Abs.K.toks]) (by simp [lookO, plainO]) rfl ?_
    simp only [Qs, if_true, List.nodup_nil]
    exact hS _ (by simp [V.fz, V.nrm, Abs.K.fz, Abs.K.nrm, norm_list])
end Go.Abs


set_option maxRecDepth 100000
set_option maxHeartbeats 4000000
namespace Go.Abs
theorem sortI_asc (l : List Int) : (sortI l).Pairwise (· ≤ ·) := by
  have := List.pairwise_mergeSort (le := fun x y : Int => decide (x ≤ y)) (fun a b c h1 h2 => by simp at *; omega) (fun a b => by simp; omega) l
  exact this.imp (fun h => by simpa using h)
theorem mem_sortI (l : List Int) (x : Int) : x ∈ sortI l ↔ x ∈ l := List.mem_mergeSort
theorem compact_asc (l : List Int) (hs : l.Pairwise (· ≤ ·)) : (Lib.compact l).Pairwise (· < ·) ∧ ∀ x, x ∈ Lib.compact l ↔ x ∈ l := by
  have hget : ∀ i j, i ≤ j → j < l.length → l.toArray[i]! ≤ l.toArray[j]! := by
    intro i j hij hj
    rw [getElem!_pos l.toArray i (by simp; omega), getElem!_pos l.toArray j (by simpa using hj)]
    simp only [List.getElem_toArray]
    rcases Nat.eq_or_lt_of_le hij with h | h
    · subst h; omega
    · exact List.pairwise_iff_getElem.1 hs i j (by omega) hj h
  have key : ∀ m, m ≤ l.length → (Lib.compactUpTo l.toArray m).Pairwise (· < ·) ∧ ∀ x, x ∈ Lib.compactUpTo l.toArray m ↔ ∃ j, j < m ∧ l.toArray[j]! = x := by
    intro m
    induction m with
    | zero => intro _; simp [Lib.compactUpTo]
    | succ m ih =>
      intro hm
      obtain ⟨h1, h2⟩ := ih (by omega)
      have hsucc : Lib.compactUpTo l.toArray (m + 1) = Lib.compactUpTo l.toArray m ++ (if Lib.keeps l.toArray m = true then [l.toArray[m]!] else []) := by
        unfold Lib.compactUpTo
        rw [List.range_succ, List.filter_append, List.map_append]
        congr 1
        by_cases hk : Lib.keeps l.toArray m = true <;> simp [hk]
      rw [hsucc]
      by_cases hk : Lib.keeps l.toArray m = true
      · rw [if_pos hk]
        refine ⟨?_, fun x => ?_⟩
        · rw [List.pairwise_append]
          refine ⟨h1, by simp, fun a ha b hb => ?_⟩
          have hb := List.mem_singleton.1 hb
          subst hb
          obtain ⟨j, hj, rfl⟩ := (h2 a).1 ha
          have hle := hget j m (by omega) (by omega)
          have hk' : m = 0 ∨ l.toArray[m]! ≠ l.toArray[m - 1]! := by simpa [Lib.keeps] using hk
          rcases hk' with h0 | hne
          · omega
          · have ha := hget j (m - 1) (by omega) (by omega)
            have hb := hget (m - 1) m (by omega) (by omega)
            omega
        · rw [List.mem_append, h2]
          simp only [List.mem_singleton]
          constructor
          · rintro (⟨j, hj, rfl⟩ | rfl)
            · exact ⟨j, by omega, rfl⟩
            · exact ⟨m, by omega, rfl⟩
          · rintro ⟨j, hj, rfl⟩
            rcases Nat.lt_or_ge j m with h | h
            · exact .inl ⟨j, h, rfl⟩
            · have : j = m := by omega
              subst this; exact .inr rfl
      · rw [if_neg hk]
        simp only [List.append_nil]
        refine ⟨h1, fun x => ?_⟩
        rw [h2]
        have hk' : ¬ (m = 0 ∨ l.toArray[m]! ≠ l.toArray[m - 1]!) := by simpa [Lib.keeps] using hk
        have hm0 : m ≠ 0 := fun h => hk' (.inl h)
        have heq : l.toArray[m]! = l.toArray[m - 1]! := by
          by_cases h : l.toArray[m]! = l.toArray[m - 1]!
          · exact h
          · exact absurd (.inr h) hk'
        constructor
        · rintro ⟨j, hj, rfl⟩; exact ⟨j, by omega, rfl⟩
        · rintro ⟨j, hj, rfl⟩
          rcases Nat.lt_or_ge j m with h | h
          · exact ⟨j, h, rfl⟩
          · have : j = m := by omega
            subst this; exact ⟨j - 1, by omega, heq.symm⟩
  obtain ⟨h1, h2⟩ := key l.length (Nat.le_refl _)
  refine ⟨h1, fun x => ?_⟩
  show x ∈ Lib.compactUpTo l.toArray l.length ↔ _
  rw [h2, List.mem_iff_getElem]
  constructor
  · rintro ⟨j, hj, rfl⟩
    exact ⟨j, hj, by rw [getElem!_pos l.toArray j (by simpa using hj)]; simp⟩
  · rintro ⟨j, hj, rfl⟩
    exact ⟨j, hj, by rw [getElem!_pos l.toArray j (by simpa using hj)]; simp⟩
theorem outs_facts (l : List (Int × Int)) (x : Int) : (∀ a, a ∈ outs l x ↔ edgeE l x a = true) ∧ (outs l x).Pairwise (· < ·) := by
  obtain ⟨h1, h2⟩ := compact_asc (sortI ((l.filter fun p => decide (p.1 = x)).map (·.2))) (sortI_asc _)
  refine ⟨fun a => ?_, h1⟩
  unfold outs
  rw [h2, mem_sortI]
  unfold edgeE
  simp only [List.mem_map, List.mem_filter, List.any_eq_true, Bool.and_eq_true, decide_eq_true_eq]
  constructor
  · rintro ⟨p, ⟨h3, h4⟩, h5⟩; exact ⟨p, h3, h4, h5⟩
  · rintro ⟨p, h3, h4, h5⟩; exact ⟨p, ⟨h3, h4⟩, h5⟩
theorem edgeE_swap (l : List (Int × Int)) (a b : Int) : edgeE (swapE l) a b = edgeE l b a := by
  unfold edgeE swapE
  rw [List.any_map]
  congr 1
  funext p
  show (decide (p.2 = a) && decide (p.1 = b)) = _
  rw [Bool.and_comm]
theorem edgeE_mem {l : List (Int × Int)} {a b : Int} (h : edgeE l a b = true) : ∃ p ∈ l, p.1 = a ∧ p.2 = b := by
  unfold edgeE at h
  simp only [List.any_eq_true, Bool.and_eq_true, decide_eq_true_eq] at h
  exact h
theorem cycle_eq {l : List (Int × Int)} {n N : Nat} (hnN : n ≤ N) (h : ∀ p ∈ l, 0 ≤ p.1 ∧ p.1 < n ∧ 0 ≤ p.2 ∧ p.2 < n) : cycleG N l = cycR (edgeE l) n := by
  unfold cycleG
  have hE : ∀ x y, edgeE l x y = true → 0 ≤ x ∧ x < n ∧ 0 ≤ y ∧ y < n := by
    intro x y hxy
    obtain ⟨p, hp, rfl, rfl⟩ := edgeE_mem hxy
    exact h p hp
  refine cyc_eq hnN hE (fun x h0 h1 => ?_) (fun b h0 h1 a => ?_)
  · rw [nextG_at (by omega), show ((x.toNat : Nat) : Int) = x by omega]
    exact outs_facts l x
  · rw [nextG_at (by omega), show ((b.toNat : Nat) : Int) = b by omega, (outs_facts (swapE l) b).1, edgeE_swap]
def maxF (l : List Dr) : Int := l.foldl (fun n x => max n (max x.d x.a + 1)) 0
theorem maxF_take {l : List Dr} {i : Nat} (h : i < l.length) : maxF (l.take (i + 1)) = max (maxF (l.take i)) (max (dat l i).d (dat l i).a + 1) := by
  unfold maxF
  rw [List.take_succ_eq_append_getElem h, List.foldl_append, dat_nat h]; rfl
theorem maxF_facts {l : List Dr} (hf : ∀ x ∈ l, 0 ≤ x.d ∧ x.d < 200 ∧ 0 ≤ x.a ∧ x.a < 200) : ∀ i, i ≤ l.length → 0 ≤ maxF (l.take i) ∧ maxF (l.take i) ≤ 200 ∧ ∀ x ∈ l.take i, x.d < maxF (l.take i) ∧ x.a < maxF (l.take i)
  | 0, _ => by simp [maxF]
  | i + 1, hi => by
    have hlt : i < l.length := by omega
    obtain ⟨h1, h2, h3⟩ := maxF_facts hf i (by omega)
    have hx := hf l[i] (List.getElem_mem hlt)
    have hm := maxF_take hlt
    rw [dat_nat hlt] at hm
    refine ⟨by omega, by omega, fun x hx2 => ?_⟩
    rw [List.take_succ_eq_append_getElem hlt] at hx2
    rcases List.mem_append.1 hx2 with h | h
    · have := h3 x h; omega
    · rw [List.mem_singleton] at h; subst h; omega
theorem ring_both {l : List Dr} (hR : RightD l) : cycleG 200 (edgesD l) = cycR (edgeE (edgesD l)) (maxF l).toNat ∧ ∀ p ∈ edgesD l, 0 ≤ p.1 ∧ p.1 < ((maxF l).toNat : Int) ∧ 0 ≤ p.2 ∧ p.2 < ((maxF l).toNat : Int) := by
  obtain ⟨h1, h2, h3⟩ := maxF_facts hR.firm l.length (Nat.le_refl _)
  rw [List.take_length] at h1 h2 h3
  have hp : ∀ p ∈ edgesD l, 0 ≤ p.1 ∧ p.1 < ((maxF l).toNat : Int) ∧ 0 ≤ p.2 ∧ p.2 < ((maxF l).toNat : Int) := by
    intro p hp
    obtain ⟨x, hx, rfl⟩ := List.mem_map.1 hp
    have h4 := h3 x hx
    have h5 := hR.firm x hx
    show 0 ≤ x.d ∧ x.d < _ ∧ 0 ≤ x.a ∧ x.a < _
    omega
  exact ⟨cycle_eq (by omega) hp, hp⟩
end Go.Abs


set_option maxRecDepth 100000
set_option maxHeartbeats 4000000
namespace Go.Abs
open Go.Proofs Go.RowKit
end Go.Abs


set_option maxRecDepth 100000
set_option maxHeartbeats 4000000
namespace Go.Abs
open Go.Proofs Go.RowKit
end Go.Abs


set_option maxRecDepth 100000
set_option maxHeartbeats 4000000
namespace Go.Abs
open Go.Proofs Go.RowKit
end Go.Abs


set_option maxRecDepth 100000
set_option maxHeartbeats 4000000
namespace Go.Abs
open Go.Proofs Go.RowKit
theorem rangeI_len (lo : Int) (m : Nat) : (rangeI lo m).length = m := by simp [rangeI]
end Go.Abs


set_option maxRecDepth 100000
set_option maxHeartbeats 4000000
namespace Go.Abs
open Go.Proofs Go.RowKit
mutual
def C.noSz (n : Nat) : C → Bool
  | .list sz _ rows => (sz != n || rows.isEmpty) && C.noSzs n rows
  | .ro _ _ => false
  | .fn _ caps => C.noSzr n caps
  | .gl _ => false
  | .int _ _ => true
  | .bool _ => true
  | .str _ => true
  | .nilf => true
def C.noSzr (n : Nat) : List C → Bool
  | [] => true
  | c :: r => C.noSz n c && C.noSzr n r
def C.noSzs (n : Nat) : List (List C) → Bool
  | [] => true
  | r :: l => C.noSzr n r && C.noSzs n l
end
theorem noSzr_mem {n : Nat} : ∀ {r : List C} {c : C}, C.noSzr n r = true → c ∈ r → c.noSz n = true
  | [], _, _, h => absurd h (by simp)
  | a :: r, c, h, hm => by
    simp only [C.noSzr, Bool.and_eq_true] at h
    rcases List.mem_cons.1 hm with e | e
    · rw [e]; exact h.1
    · exact noSzr_mem h.2 e
theorem noSzs_mem {n : Nat} : ∀ {l : List (List C)} {r : List C}, C.noSzs n l = true → r ∈ l → C.noSzr n r = true
  | [], _, _, h => absurd h (by simp)
  | a :: l, r, h, hm => by
    simp only [C.noSzs, Bool.and_eq_true] at h
    rcases List.mem_cons.1 hm with e | e
    · rw [e]; exact h.1
    · exact noSzs_mem h.2 e
theorem PRep.unSz {w : World} {Z Z' : Bk → Prop} {n : Nat} (hz : ∀ k, Z k → k.1 ≠ n → Z' k) {c : C} {v : Value} (h : PRep w Z c v) : c.noSz n = true → PRep w Z' c v := by
  induction h with
  | int k n => exact fun _ => .int k n
  | bool b => exact fun _ => .bool b
  | str s => exact fun _ => .str s
  | nil sz nl h => exact fun _ => .nil sz nl h
  | emp sz nl a h => exact fun _ => .emp sz nl a h
  | list b o cap sz nl rows val h1 h2 h3 h4 h5 h6 _ ih =>
    intro hn
    simp only [C.noSz, Bool.and_eq_true, Bool.or_eq_true, bne_iff_ne] at hn
    refine .list b o cap sz nl rows val h1 h2 h3 (fun hne => hz _ (h4 hne) ?_) h5 h6 (fun i j r c hr hc => ih i j r c hr hc (noSzr_mem (noSzs_mem hn.2 (List.mem_of_getElem? hr)) (List.mem_of_getElem? hc)))
    rcases hn.1 with e | e
    · exact e
    · exact absurd (List.isEmpty_iff.1 e) hne
  | ro => exact fun h => absurd h (by simp [C.noSz])
  | nilf => exact fun _ => .nilf
  | gl => exact fun h => absurd h (by simp [C.noSz])
  | fn f caps vs val h1 h2 _ ih =>
    intro hn
    simp only [C.noSz] at hn
    exact .fn f caps vs val h1 h2 fun j c hc => ih j c hc (noSzr_mem hn (List.mem_of_getElem? hc))
theorem specS_lend {P : Program} {f e sz τ : Nat} {rows : List (List C)} {c : C} (hs : Spec P f [lst sz rows] (fun r => r = .k (.c c))) (hp : Plain sz rows) (hc : c.noSz sz = true) :
    SpecS P f [.k (.own τ)] (oneB e sz τ rows) [τ] (fun r o' => r = .k (.c c) ∧ o' = oneB e sz τ rows) := by
  refine ⟨hs.1, fun w0 Z0 κ w vs hsz hi => ?_⟩
  obtain ⟨v, rfl⟩ := vs_one hsz
  have ho : (oneB e sz τ rows) τ = some (.arr e sz none rows) := by simp [oneB]
  have hob := hi.objs τ _ ho
  have htm : VRep w (Zof w0 Z0 κ (oneB e sz τ rows) w) κ (oneB e sz τ rows) (.k (.own τ)) v := by simpa using hi.tmps 0
  let Z1 : Bk → Prop := fun k => k.1 = sz ∧ κ τ = some k.2
  have hZ1 : ∀ b, Z1 b → b.2 < w.heap.size := fun b hb => (hi.own τ b.2 (by simp [oneB]) hb.2).2
  have hrep : PRep w Z1 (lstC sz rows) v := by
    rcases hob with ⟨hκ, hrows, _⟩ | ⟨b, cur, cap, hκ, hheap, h0, hcs, hlen, hcap, _, hall, hrr⟩
    · have hv : v = .slice none 0 0 := by
        rcases htm.2 e sz none _ ho with ⟨_, hv⟩ | ⟨b, _, _, hb, _⟩
        · exact hv
        · rw [hκ] at hb; cases hb
      rw [hv, hrows]
      exact .nil _ _ (by simp)
    · obtain ⟨cap', hv, hcap'⟩ : ∃ cap', v = .slice (some ⟨b, 0, none⟩) rows.length cap' ∧ cur.size = cap' * sz := by
        rcases htm.2 e sz none _ ho with ⟨hn, _⟩ | ⟨b', cur', cap', hb, hh, hc2, hv⟩
        · rw [hκ] at hn; cases hn
        · rw [hκ] at hb; cases hb
          rw [hheap] at hh; cases hh
          exact ⟨cap', hv, hc2⟩
      have hcc : cap' = cap := Nat.eq_of_mul_eq_mul_right h0 (by rw [← hcs, ← hcap'])
      subst hcc
      rw [hv]
      by_cases hr : rows = []
      · subst hr
        exact .list b 0 cap' 0 none [] (fun _ _ => .bool true) (by simp) hlen hcap (fun h => absurd rfl h) (by simp) (fun i j r c h => by simp at h) (fun i j r c h => by simp at h)
      · have e1 : rows.isEmpty = false := by cases rows with
          | nil => exact absurd rfl hr
          | cons => rfl
        unfold lstC
        rw [e1]
        refine .list b 0 cap' sz none rows (fun i j => cur.getD (i * sz + j) (.bool true)) (by simp) hlen hcap (fun _ => ⟨rfl, hκ⟩) hall (fun i j r c hri hcj => ?_) (fun i j r c hri hcj => ?_)
        · obtain ⟨u, hu, _⟩ := hrr i j r c hri hcj
          simp only [World.cell?, hheap, Nat.zero_add]
          simp only [Option.isSome_none, Bool.false_eq_true, if_false]
          rw [hu, Array.getD_eq_getD_getElem?, hu]; rfl
        · obtain ⟨u, hu, hpu⟩ := hrr i j r c hri hcj
          have hsc := hp.sc r (List.mem_of_getElem? hri) c (List.mem_of_getElem? hcj)
          have : cur.getD (i * sz + j) (.bool true) = u := by rw [Array.getD_eq_getD_getElem?, hu]; rfl
          rw [this, sc_val hsc hpu]
          exact sc_rep hsc
  have hA : ARep w Z1 [lst sz rows] (#[v] : Array Value).toList := by
    refine ⟨rfl, fun j x u hx hu => ?_⟩
    match j, hx, hu with
    | 0, hx, hu =>
      cases hx; cases hu
      exact ⟨rfl, hrep.oneCell, hrep⟩
    | j + 1, hx, _ => simp at hx
  refine (hs.2 w Z1 #[v] hi.globB hZ1 hA).mono ?_
  rintro ex w' ⟨v', r, rfl, rfl, _, hrr⟩
  obtain ⟨κ', hI⟩ := hrr 0
  have hkept : Kept w w' := hI.kept
  have ht := hI.tmps 0
  simp only [if_true] at ht
  have hc0 : PRep w' (Zof (base w) Z1 κ' (tabOf 0 (V.reg 0 (V.k (.c c))).2) w') c v' := ht.2
  have hw0 : ∀ b, w0.B b → b < w.heap.size := fun b hb => Nat.lt_of_lt_of_le (w0.lt b hb) hi.kept.size
  have hold : ∀ b, b < w.heap.size → w'.heap[b]? = w.heap[b]? := fun b hb => hkept.block b hb
  refine ⟨v', κ, _, _, rfl, ⟨rfl, rfl⟩, fun t ht2 => ⟨Like.refl _, rfl, fun hne b hb cur e1 f1 hcur => ⟨cur, by rw [hold b (hi.own t b hne hb).2]; exact hcur, rfl⟩⟩, ?_⟩
  refine ⟨⟨hkept.os.trans hi.kept.os, hkept.tape.trans hi.kept.tape, hkept.output.trans hi.kept.output, Nat.le_trans hi.kept.size hkept.size, fun b hb => (hold b (hw0 b hb)).trans (hi.kept.block b hb)⟩, hi.glob, fun t b h hb => ?_, fun t t' b h h' hb hb' => hi.inj t t' b h h' hb hb', fun t ob h => ?_, fun s => ?_⟩
  · have := hi.own t b h hb
    exact ⟨this.1, Nat.lt_of_lt_of_le this.2 hkept.size⟩
  · by_cases htt : t = τ
    · subst htt
      have h : (oneB e sz t rows) t = some ob := h
      rw [ho] at h; cases h
      rcases hob with ⟨hκ, hrows, hnl⟩ | ⟨b, cur, cap, hκ, hheap, h0, hcs, hlen, hcap, hnl, hall, hrr2⟩
      · exact .inl ⟨hκ, hrows, hnl⟩
      · refine .inr ⟨b, cur, cap, hκ, by rw [hold b (heap_lt hheap)]; exact hheap, h0, hcs, hlen, hcap, hnl, hall, fun i j r c hri hcj => ?_⟩
        obtain ⟨u, hu, hpu⟩ := hrr2 i j r c hri hcj
        have hsc := hp.sc r (List.mem_of_getElem? hri) c (List.mem_of_getElem? hcj)
        exact ⟨u, hu, by rw [sc_val hsc hpu]; exact sc_rep hsc⟩
    · have h : (oneB e sz τ rows) t = some ob := h
      simp [oneB, htt] at h
  · by_cases hs0 : s = 0
    · subst hs0
      simp only [if_true]
      refine ⟨hc0.oneCell, hc0.unSz (fun k hk hne => ?_) hc⟩
      obtain ⟨h1, h2, h3⟩ := hk
      rcases h1 with ⟨h1, _⟩ | ⟨h1, h4⟩
      · exact absurd h1.1 hne
      · exact ⟨.inr ⟨fun hb => h1 (hw0 _ hb), h4⟩, h2, fun t ht2 hb => h1 (hi.own t k.2 ht2 hb).2⟩
    · simp only [hs0, if_false]; trivial
theorem call_lend {P : Program} {f d τ e sz : Nat} {xs : List AX} {K : KK} {ts : TS} {os : OS} {nl : Option Bool} {X : Prop} {c : C} {rows : List (List C)} (rows0 : List (List C))
    (hs : SpecS P f [.k (.own τ)] (oneB e sz τ rows) [τ] (fun r o' => r = .k (.c c) ∧ o' = oneB e sz τ rows)) (ho : lookO τ os = some (.arr e sz nl rows0)) (hn : C.normRows rows0 = rows)
    (hk : K (insT d (.k (.c c)) ts) (insO τ (.arr e sz none rows) os)) : X ∨ callSF P f [.k (.own τ)] xs K (some d) ts os := by
  refine .inr (.inl ?_)
  refine ⟨[τ], [τ], [], fun r o' => r = .k (.c c) ∧ o' = oneB e sz τ rows, by simp [V.within, Abs.K.within], rfl, ?_, fun s hs => .inl hs, ?_, ?_⟩
  · intro s hs ob hob
    simp only [List.mem_singleton] at hs
    subst hs
    rw [ho] at hob; cases hob; rfl
  · have e1 : (tabIn [τ] fun s => (lookO s os).map O.nrm) = oneB e sz τ rows := by
      funext s
      by_cases h : s = τ
      · subst h
        simp [tabIn, ho, oneB, O.nrm, hn]
      · simp [tabIn, oneB, h]
    rw [e1]; exact hs
  · rintro r o' ⟨rfl, rfl⟩
    refine ⟨fun s hs => by simp at hs; simp [oneB, hs], rfl, fun s ob h => ?_, ?_⟩
    · unfold oneB at h
      split at h
      · cases h; rfl
      · cases h
    · have e2 : (mkS ts os).back [τ] [] (oneB e sz τ rows) = mkS ts (insO τ (.arr e sz none rows) os) := by
        simp only [St.back, mkS, St.mk.injEq]
        refine ⟨by funext s; rfl, ?_⟩
        funext s
        rw [lookO_ins]
        by_cases h : s = τ
        · subst h; simp [oneB]
        · simp only [List.contains_cons, List.contains_nil, Bool.or_false, beq_iff_eq, h, if_false]
          cases lookO s os <;> rfl
      show onS K (((mkS ts os).back [τ] [] (oneB e sz τ rows)).put d (.k (.c c)))
      rw [e2, mkS_put]; exact onS_mk hk
theorem plain_drs (l : List Dr) : Plain 6 (drs l) := by
  refine ⟨by decide, fun r hr => ?_, fun r hr c hc => ?_⟩ <;> obtain ⟨s, _, rfl⟩ := List.mem_map.1 hr
  · rfl
  · simp [encD] at hc; rcases hc with rfl | rfl | rfl | rfl | rfl | rfl <;> rfl
theorem noSz_ints (n : Nat) (h : n ≠ 1) (l : List Int) : C.noSzs n (ints l) = true := by
  induction l with
  | nil => rfl
  | cons a l ih =>
    have e : ints (a :: l) = [.int .i64 a] :: ints l := rfl
    rw [e, C.noSzs, ih]; rfl
theorem noSz_lst1 (n : Nat) (h : n ≠ 1) (l : List Int) : (lstC 1 (ints l)).noSz n = true := by
  unfold lstC
  cases l with
  | nil => simp [C.noSz, noSz_ints n h, ints, C.noSzs]
  | cons a l => simp [C.noSz, noSz_ints n h, Ne.symm h]
theorem noSz_kis (l : List Ki) : C.noSzs 6 (kis l) = true := by
  induction l with
  | nil => rfl
  | cons a l ih =>
    have e : kis (a :: l) = encKi a :: kis l := rfl
    rw [e, C.noSzs, ih]
    simp [encKi, C.noSzr, noSz_lst1, C.noSz]
theorem noSz_lst3 (l : List Ki) : (lstC 3 (kis l)).noSz 6 = true := by
  unfold lstC
  cases l with
  | nil => simp [C.noSz, kis, C.noSzs]
  | cons a l =>
    have e : (kis (a :: l)).isEmpty = false := rfl
    rw [e]
    show (((3 : Nat) != 6 || (kis (a :: l)).isEmpty) && C.noSzs 6 (kis (a :: l))) = true
    rw [noSz_kis]; rfl
theorem n15 (τ : Nat) (l : List Dr) : SpecS Try.prog 15 [.k (.own τ)] (oneB 40 6 τ (drs l)) [τ] (fun r o' => r = .k (.c (lstC 3 (kis (kitesG l)))) ∧ o' = oneB 40 6 τ (drs l)) :=
  specS_lend (d15 l) (plain_drs l) (noSz_lst3 _)
theorem n20 (τ : Nat) (l : List Dr) : SpecS Try.prog 20 [.k (.own τ)] (oneB 40 6 τ (drs l)) [τ] (fun r o' => r = .k (.c (lstC 1 (ints (ringG l)))) ∧ o' = oneB 40 6 τ (drs l)) :=
  specS_lend (e20 l) (plain_drs l) (noSz_lst1 6 (by decide) _)
end Go.Abs


set_option maxRecDepth 100000
set_option maxHeartbeats 4000000
namespace Go.Abs
open Go.Proofs Go.RowKit
def lkP (l : List Dr) (c : List Int) (i : Nat) : Prop := 0 ≤ c.getD i 0 ∧ c.getD i 0 < l.length ∧ (0 < i → (dat l (c.getD i 0)).c = c.getD (i - 1) 0)
theorem linked_no {l : List Dr} {c : List Int} {i : Nat} (hi : i < c.length) (h : ¬ lkP l c i) : linkedG l c = false := by
  unfold linkedG
  rw [Bool.and_eq_false_iff]
  left
  rw [List.all_eq_false]
  exact ⟨i, List.mem_range.2 hi, fun hh => h (by unfold lkP; exact of_decide_eq_true hh)⟩
theorem linked_end {l : List Dr} {c : List Int} (h : ∀ i, i < c.length → lkP l c i) : linkedG l c = decide (1 < c.length ∧ (dat l (c.getD (c.length - 1) 0)).a = (dat l (c.getD 0 0)).d) := by
  unfold linkedG
  have : ((List.range c.length).all fun i => decide (0 ≤ c.getD i 0 ∧ c.getD i 0 < l.length ∧ (0 < i → (dat l (c.getD i 0)).c = c.getD (i - 1) 0))) = true := by
    rw [List.all_eq_true]
    intro i hi
    exact decide_eq_true (h i (List.mem_range.1 hi))
  rw [this, Bool.true_and]
theorem e22 (l : List Dr) (c : List Int) : Spec Try.prog 22 [lst 6 (drs l), lst 1 (ints c)] (fun r => r = .bool (linkedG l c)) := by
  refine Spec.of_len hf22 fun hlen => ?_
  have hl := len_lst (sz := 1) (rows := ints c) (by simp) hlen
  rw [ints_len] at hl
  clear hlen
  refine Spec.of_awlS hf22 okf22 (by simp) fun S hS => ?_
  simp only [drs_len, normRows_drs, Qs, Nat.reduceAdd, uu f22.eq_1, uu f22b16.eq_1, vv f22r17.eq_1, uu f22b18.eq_1, uu f22b19.eq_1, vv f22r20.eq_1, uu f22b21.eq_1]
  rw [uu f22l15.eq_1]
  refine awl_loop (fun i : Nat => [(0, lst 6 (drs l)), (1, lst 1 (ints c)), (5, .int .i64 i)]) (fun _ => []) (fun i => i ≤ c.length ∧ ∀ i', i' < i → lkP l c i') (fun i => c.length - i) 0 rfl rfl ⟨Nat.zero_le _, fun _ h => by omega⟩ ?_
  rintro i ⟨hi, hd⟩
  by_cases hlt : i < c.length
  · have c1 : (i : Int) < c.length := by omega
    have i0 : (0 : Int) ≤ (i : Int) := by omega
    have c4 : IntKind.i64.wrap ((i : Int) + 1) = (i : Int) + 1 := wrap_in (by omega) (by omega)
    have hci : (ints c).getD i [] = [.int .i64 (c.getD i 0)] := ints_getD hlt
    have hno := fun h => linked_no (l := l) hlt h
    have hP : lkP l c i ↔ 0 ≤ c.getD i 0 ∧ c.getD i 0 < l.length ∧ (0 < i → (dat l (c.getD i 0)).c = c.getD (i - 1) 0) := Iff.rfl
    have hgoon : lkP l c i → ∀ i', i' < i + 1 → lkP l c i' := fun h i' hi' => by
      by_cases e : i' = i
      · rw [e]; exact h
      · exact hd i' (by omega)
    obtain ⟨y, hy⟩ : ∃ y, c.getD i 0 = y := ⟨_, rfl⟩
    rw [hy] at hci hP
    by_cases h1 : y < 0
    · rw [hno (fun g => by have := (hP.1 g).1; omega)] at hS
      simp only [c1, i0, c4, hci, h1, ints_len, drs_len, normRows_drs, Int.toNat_natCast, Qs, if_true, List.nodup_nil, Nat.reduceBEq, vv f22r3.eq_1, vv f22r4.eq_1, uu f22b5.eq_1, uu f22b6.eq_1, vv f22r7.eq_1, uu f22b8.eq_1, uu f22b9.eq_1, uu f22b10.eq_1, uu f22b11.eq_1, vv f22r12.eq_1, uu f22b13.eq_1, uu f22b14.eq_1]
      exact hS
    by_cases h2 : y ≥ (l.length : Int)
    · rw [hno (fun g => by have := (hP.1 g).2.1; omega)] at hS
      simp only [c1, i0, c4, hci, h1, h2, ints_len, drs_len, normRows_drs, Int.toNat_natCast, Qs, if_true, if_false, List.nodup_nil, Nat.reduceBEq, vv f22r3.eq_1, vv f22r4.eq_1, uu f22b5.eq_1, uu f22b6.eq_1, vv f22r7.eq_1, uu f22b8.eq_1, uu f22b9.eq_1, uu f22b10.eq_1, uu f22b11.eq_1, vv f22r12.eq_1, uu f22b13.eq_1, uu f22b14.eq_1]
      exact hS
    have y0 : 0 ≤ y := by omega
    have y1 : y < (l.length : Int) := by omega
    have hat := drs_dat y0 y1
    by_cases h3 : i = 0
    · have h3' : ¬ (i : Int) > 0 := by omega
      simp only [c1, i0, c4, hci, h1, h2, h3', ints_len, drs_len, normRows_drs, Int.toNat_natCast, Qs, if_true, if_false, Nat.reduceBEq, vv f22r3.eq_1, uu f22b6.eq_1, vv f22r7.eq_1, uu f22b8.eq_1, uu f22b9.eq_1, uu f22b10.eq_1, uu f22b11.eq_1, vv f22r12.eq_1, uu f22b13.eq_1, uu f22b14.eq_1]
      exact Next.intro (i + 1) rfl rfl ⟨by omega, hgoon (hP.2 ⟨y0, y1, fun h => by omega⟩)⟩ (by omega)
    have h3' : (i : Int) > 0 := by omega
    obtain ⟨p, rfl⟩ : ∃ p, i = p + 1 := ⟨i - 1, by omega⟩
    have w1 : IntKind.i64.wrap (((p + 1 : Nat) : Int) - 1) = (p : Int) := by rw [wrap_in (by omega) (by omega)]; omega
    have p0 : (0 : Int) ≤ (p : Int) := by omega
    have p1 : (p : Int) < c.length := by omega
    have hcp : (ints c).getD p [] = [.int .i64 (c.getD p 0)] := ints_getD (by omega)
    by_cases h4 : (dat l y).c = c.getD p 0
    · have h4' : ((dat l y).c != c.getD p 0) = false := by simp [h4]
      simp only [c1, i0, c4, hci, h1, h2, h3', w1, p0, p1, y0, y1, hat, hcp, h4', ints_len, drs_len, normRows_drs, Int.toNat_natCast, Qs, if_true, if_false, Nat.reduceAdd, Nat.reduceBEq, vv f22r3.eq_1, uu f22b6.eq_1, vv f22r7.eq_1, uu f22b8.eq_1, uu f22b9.eq_1, uu f22b10.eq_1, uu f22b11.eq_1, vv f22r12.eq_1, uu f22b13.eq_1, uu f22b14.eq_1]
      exact Next.intro (p + 1 + 1) rfl rfl ⟨by omega, hgoon (hP.2 ⟨y0, y1, fun _ => h4⟩)⟩ (by omega)
    · have h4' : ((dat l y).c != c.getD p 0) = true := by simp only [bne_iff_ne]; exact h4
      rw [hno (fun g => h4 ((hP.1 g).2.2 (by omega)))] at hS
      simp only [c1, i0, c4, hci, h1, h2, h3', w1, p0, p1, y0, y1, hat, hcp, h4', ints_len, drs_len, normRows_drs, Int.toNat_natCast, Qs, if_true, if_false, List.nodup_nil, Nat.reduceAdd, Nat.reduceBEq, vv f22r3.eq_1, vv f22r4.eq_1, uu f22b5.eq_1, uu f22b6.eq_1, vv f22r7.eq_1, uu f22b8.eq_1, uu f22b9.eq_1, uu f22b10.eq_1, uu f22b11.eq_1, vv f22r12.eq_1, uu f22b13.eq_1, uu f22b14.eq_1]
      exact hS
  · obtain rfl : i = c.length := by omega
    have c1 : ¬ (c.length : Int) < c.length := by omega
    rw [linked_end hd] at hS
    by_cases h1 : (c.length : Int) > 1
    · obtain ⟨p, hp⟩ : ∃ p, c.length = p + 2 := ⟨c.length - 2, by omega⟩
      have w1 : IntKind.i64.wrap ((c.length : Int) - 1) = ((p + 1 : Nat) : Int) := by rw [wrap_in (by omega) (by omega)]; omega
      have p0 : (0 : Int) ≤ ((p + 1 : Nat) : Int) := by omega
      have p1 : ((p + 1 : Nat) : Int) < c.length := by omega
      have z0 : (0 : Int) < (c.length : Int) := by omega
      have z1 : (0 : Int).toNat = 0 := rfl
      have hcp : (ints c).getD (p + 1) [] = [.int .i64 (c.getD (p + 1) 0)] := ints_getD (by omega)
      have hc0 : (ints c).getD 0 [] = [.int .i64 (c.getD 0 0)] := ints_getD (by omega)
      have l1 := hd (p + 1) (by omega)
      have l0 := hd 0 (by omega)
      have a1 := drs_dat l1.1 l1.2.1
      have a0 := drs_dat l0.1 l0.2.1
      have l1a := l1.1
      have l1b := l1.2.1
      have l0a := l0.1
      have l0b := l0.2.1
      have hS' : S (.bool (decide ((dat l (c.getD (p + 1) 0)).a = (dat l (c.getD 0 0)).d))) := by
        refine fin hS ?_
        rw [hp, show p + 2 - 1 = p + 1 by omega]
        by_cases e : (dat l (c.getD (p + 1) 0)).a = (dat l (c.getD 0 0)).d
        · rw [decide_eq_true e, decide_eq_true ⟨by omega, e⟩]
        · rw [decide_eq_false e, decide_eq_false (fun h => e h.2)]
      generalize c.getD (p + 1) 0 = u at hcp a1 l1a l1b hS'
      generalize c.getD 0 0 = v at hc0 a0 l0a l0b hS'
      by_cases e : (dat l u).a = (dat l v).d
      · have e' : ((dat l u).a == (dat l v).d) = true := by simpa using e
        rw [decide_eq_true e] at hS'
        simp only [c1, h1, w1, p0, p1, z0, z1, hcp, hc0, a1, a0, l1a, l1b, l0a, l0b, e', ints_len, drs_len, normRows_drs, Int.toNat_natCast, Qs, if_true, List.nodup_nil, Nat.reduceAdd, Nat.reduceLeDiff, Nat.reduceBEq, Int.reduceLE, vv f22r1.eq_1, uu f22b2.eq_1, uu f22b11.eq_1, vv f22r12.eq_1, uu f22b13.eq_1, uu f22b14.eq_1]
        exact hS'
      · have e' : ((dat l u).a == (dat l v).d) = false := by simpa using e
        rw [decide_eq_false e] at hS'
        simp only [c1, h1, w1, p0, p1, z0, z1, hcp, hc0, a1, a0, l1a, l1b, l0a, l0b, e', ints_len, drs_len, normRows_drs, Int.toNat_natCast, Qs, if_true, List.nodup_nil, Nat.reduceAdd, Nat.reduceLeDiff, Nat.reduceBEq, Int.reduceLE, vv f22r1.eq_1, uu f22b2.eq_1, uu f22b11.eq_1, vv f22r12.eq_1, uu f22b13.eq_1, uu f22b14.eq_1]
        exact hS'
    · rw [decide_eq_false (fun h => h1 (by omega))] at hS
      simp only [c1, h1, ints_len, Qs, if_true, List.nodup_nil, Nat.reduceBEq, vv f22r1.eq_1, uu f22b2.eq_1, uu f22b11.eq_1, vv f22r12.eq_1, uu f22b13.eq_1, uu f22b14.eq_1]
      exact hS
end Go.Abs


set_option maxRecDepth 100000
set_option maxHeartbeats 4000000
namespace Go.Abs
open Go.Proofs Go.RowKit
def ex0 : List Dr := [⟨1, 2, 100, 0, 30, -1⟩, ⟨2, 3, 90, 29, 59, 0⟩, ⟨3, 1, 100, 50, 90, 1⟩]
def ex1 : List Dr := [⟨1, 2, 100, 0, 30, -1⟩, ⟨2, 3, 90, 29, 59, 0⟩, ⟨3, 2, 100, 50, 90, 1⟩]
def ex2 : List Dr := [⟨1, 2, 100, 0, 30, -1⟩, ⟨2, 3, 90, 29, 59, 0⟩, ⟨3, 2, 100, 50, 90, 2⟩]
theorem kitesG_len (l : List Dr) : (kitesG l).length ≤ 100 := by
  unfold kitesG
  split
  · rename_i h
    have hR := right_of h
    have hp := hR.len
    have hle : (rawG l).length ≤ l.length := by
      unfold rawG
      rw [List.length_map]
      exact Nat.le_trans (List.length_filter_le _ _) (by rw [rangeI_len]; exact Nat.le_refl _)
    have := kites_eq hR.cov (out := (rawG l).mergeSort fun x y => !ltK y x) (List.mergeSort_perm _ _) (by
      have := List.pairwise_mergeSort (le := fun x y : Ki => !ltK y x) (fun a b c h1 h2 => by
        simp only [Bool.not_eq_true'] at *
        exact ltK_swo h2 h1) (fun a b => by
        simp only [Bool.or_eq_true, Bool.not_eq_true']
        cases hab : ltK b a with
        | false => exact .inl rfl
        | true =>
          right
          cases hba : ltK a b with
          | false => rfl
          | true => have := ltK_trans hab hba; rw [ltK_irr] at this; cases this) (rawG l)
      exact this.imp fun h => by simpa using h)
    rw [← this, List.length_mergeSort]
    omega
  · simp
theorem e25 : Spec Try.prog 25 [] (fun r => r = .k (.newl 40 6 (some false) (drs ex0))) := by
  refine Spec.of_awlX hf25 okf25 (by simp) fun S hS => ?_
  simp only [endKX_ret, endKX_normal, Qs, if_true, reduceCtorEq, forall_eq_or_imp, forall_eq, bne_iff_ne, ne_eq, Int.reduceNeg, List.append_nil, List.mem_cons, List.nodup_nil, List.nodup_cons, Nat.reduceAdd, Nat.reduceLeDiff, Nat.reduceLT, Nat.reduceBEq, List.not_mem_nil, uu f25.eq_1, vv f25r1.eq_1, uu f25b2.eq_1, vv f25r3.eq_1, uu f25b4.eq_1]
  exact hS
theorem chk_ex0 : chkG ex0 = 0 := by kernel_rfl
theorem chk_ex2 : chkG ex2 = 2 := by kernel_rfl
theorem kit_ex0 : sameAll (kitesG ex0) [⟨[0, 1, 2], [1, 2, 3], 10⟩] = true := by kernel_rfl
theorem kit_ex1 : sameAll (kitesG ex1) [⟨[1, 2], [2, 3], 0⟩] = true := by kernel_rfl
theorem prv_ex1 : provesG (kitesG ex1) ⟨[1, 2], [2, 3], 0⟩ = true := by kernel_rfl
theorem prn_ex1 : provesG (kitesG ex1) ⟨[1, 2], [2, 3], 1⟩ = false := by kernel_rfl
theorem kit_ex2 : kitesG ex2 = [] := by unfold kitesG; rw [chk_ex2]; rfl
theorem own_ex00 : ownG ex0 0 = 10 := by kernel_rfl
theorem own_ex02 : ownG ex0 2 = 100 := by kernel_rfl
theorem ring_ex0 : ringG ex0 = [1, 2, 3] := by
  unfold ringG
  rw [chk_ex0, if_pos rfl, (ring_both (right_of chk_ex0)).1]
  kernel_rfl
theorem frzL_nil (K : KK) (ts : TS) (os : OS) : frzL [] K ts os = K ts os := id rfl
theorem frzL_cons (τ : Nat) (l : List Nat) (K : KK) (ts : TS) (os : OS) : frzL (τ :: l) K ts os = frzL l K (frzT τ ts os (lookO τ os)) (frzO τ os (lookO τ os)) := id rfl
theorem wpLPs_nil (P : Program) (K : KK) (ts : TS) (os : OS) : wpLPs P [] K ts os = K ts os := id rfl
theorem wpLPs_cons (P : Program) (l : List AI) (τs : List Nat) (r : List (List AI × List Nat)) (K : KK) (ts : TS) (os : OS) : wpLPs P ((l, τs) :: r) K ts os = wpLs P l (frzL τs (wpLPs P r K)) ts os := id rfl
theorem awl_regs (P : Program) (ps : List (List AI × List Nat)) (Q : AE → KK) (ts : TS) (os : OS) : awl P (.regs ps) Q ts os = wpLPs P ps (Q .normal) ts os := id rfl
theorem awl_regf (P : Program) (l1 l2 : List AI) (τs : List Nat) (Q : AE → KK) (ts : TS) (os : OS) : awl P (.regf l1 τs l2) Q ts os = wpLs P l1 (frzL τs (wpLs P l2 (Q .normal))) ts os := id rfl
theorem e8 : Spec Try.prog 8 [] (fun r => r = .bool true) := by
  refine Spec.of_awlS hf8 okf8 (by simp) fun S hS => ?_
  simp only [Qs, uu f8.eq_1, vv f8r17.eq_1, uu f8b18.eq_1, vv f8r19.eq_1, uu f8b20.eq_1]
  refine call_l e25 ?_
  have z1 : ((1 : Int) == 1) = true := rfl
  simp only [Qs, vv f8r15.eq_1, uu f8b16.eq_1]
  refine call_lend (drs ex0) (n15 5 ex0) rfl (normRows_drs _) ?_
  have k1 : kis [⟨[0, 1, 2], [1, 2, 3], 10⟩] = [[lstC 1 (ints [0, 1, 2]), lstC 1 (ints [1, 2, 3]), .int .i64 10]] := rfl
  have k2 : kis [⟨[1, 2], [2, 3], 0⟩] = [[lstC 1 (ints [1, 2]), lstC 1 (ints [2, 3]), .int .i64 0]] := rfl
  simp only [awl_regs, awl_regf, wpLPs_nil, wpLPs_cons, frzL_nil, frzL_cons, normRows_kis, normRows_drs, normRows_ints, Qs, if_true, if_false, forall_eq_or_imp, forall_eq, bne_iff_ne, ne_eq, List.append_nil, List.mem_cons, Nat.reduceAdd, Nat.reduceEqDiff, Nat.reduceLeDiff, Nat.reduceLT, Nat.reduceBEq, List.not_mem_nil, vv f8r12.eq_1, vv f8r13.eq_1, uu f8b14.eq_1]
  refine call_s (e14 (kitesG ex0) [⟨[0, 1, 2], [1, 2, 3], 10⟩]) ?_ (ha := by simp [lendL, lendO, lookO, V.norm, norm_list, lst, normRows_kis, normRows_drs, k1, ints])
  simp only [kit_ex0, awl_regs, awl_regf, wpLPs_nil, wpLPs_cons, frzL_nil, frzL_cons, normRows_kis, normRows_drs, normRows_ints, Qs, Nat.reduceBEq]
  refine call_lend (drs ex0) (n20 5 ex0) rfl (normRows_drs _) ?_
  simp only [ring_ex0, awl_regs, awl_regf, wpLPs_nil, wpLPs_cons, frzL_nil, frzL_cons, normRows_kis, normRows_drs, normRows_ints, Qs, forall_eq_or_imp, forall_eq, bne_iff_ne, ne_eq, List.mem_cons, Nat.reduceEqDiff, Nat.reduceLT, Nat.reduceBEq, List.not_mem_nil]
  refine call_s (e19 [1, 2, 3] [1, 2, 3]) ?_ (ha := by simp [lendL, lendO, lookO, V.norm, norm_list, lst, normRows_kis, normRows_drs, ints])
  simp only [decide_true, awl_regs, awl_regf, wpLPs_nil, wpLPs_cons, frzL_nil, frzL_cons, normRows_kis, normRows_drs, normRows_ints, Qs, if_true, Nat.reduceBEq]
  refine call_s (d12 ex0 0) ?_ (ha := by simp [lendL, lendO, lookO, V.norm, norm_list, lst, normRows_kis, normRows_drs, ints])
  have w1 : ((10 : Int) == 10) = true := rfl
  have w2 : ((100 : Int) == 100) = true := rfl
  simp only [own_ex00, w1, awl_regs, awl_regf, wpLPs_nil, wpLPs_cons, frzL_nil, frzL_cons, normRows_kis, normRows_drs, normRows_ints, Qs, if_true, Nat.reduceBEq]
  refine call_s (d12 ex0 2) ?_ (ha := by simp [lendL, lendO, lookO, V.norm, norm_list, lst, normRows_kis, normRows_drs, ints])
  have l0 : (2 : Int) < ((drs ex0).length : Int) := by decide
  have l1 : (0 : Int) ≤ 2 := by decide
  have l2 : (2 : Int).toNat = 2 := rfl
  have s1 : (drs ex0).getD 2 [] = [.int .i64 3, .int .i64 1, .int .i64 100, .int .i64 50, .int .i64 90, .int .i64 1] := rfl
  have s2 : (drs ex0).set 2 [.int .i64 3, .int .i64 2, .int .i64 100, .int .i64 50, .int .i64 90, .int .i64 1] = drs ex1 := rfl
  simp only [own_ex02, w2, l0, l1, l2, s1, s2, awl_regs, awl_regf, wpLPs_nil, wpLPs_cons, frzL_nil, frzL_cons, normRows_kis, normRows_drs, normRows_ints, Qs, if_true, if_false, Nat.reduceAdd, Nat.reduceEqDiff, Nat.reduceLeDiff, Nat.reduceBEq, vv f8r5.eq_1, vv f8r6.eq_1, vv f8r7.eq_1, vv f8r8.eq_1, uu f8b9.eq_1, vv f8r10.eq_1, uu f8b11.eq_1]
  refine call_lend (drs ex1) (n15 5 ex1) rfl (normRows_drs _) ?_
  simp only [awl_regs, awl_regf, wpLPs_nil, wpLPs_cons, frzL_nil, frzL_cons, normRows_kis, normRows_drs, normRows_ints, Qs, if_true, if_false, forall_eq_or_imp, forall_eq, bne_iff_ne, ne_eq, List.append_nil, List.mem_cons, Nat.reduceAdd, Nat.reduceEqDiff, Nat.reduceLeDiff, Nat.reduceLT, Nat.reduceBEq, List.not_mem_nil]
  refine call_s (e14 (kitesG ex1) [⟨[1, 2], [2, 3], 0⟩]) ?_ (ha := by simp [lendL, lendO, lookO, V.norm, norm_list, lst, normRows_kis, normRows_drs, k2, ints])
  simp only [kit_ex1, awl_regs, awl_regf, wpLPs_nil, wpLPs_cons, frzL_nil, frzL_cons, normRows_kis, normRows_drs, normRows_ints, Qs, q_AOp_dst_eq_6, if_true, if_false, forall_eq_or_imp, forall_eq, bne_iff_ne, ne_eq, List.mem_cons, Nat.reduceAdd, Nat.reduceEqDiff, Nat.reduceLeDiff, Nat.reduceLT, Nat.reduceBEq, List.not_mem_nil]
  refine call_s (e17 ex1 ⟨[1, 2], [2, 3], 0⟩) ?_ (ha := by simp [lendL, lendO, lookO, V.norm, norm_list, lst, normRows_kis, normRows_drs, encKi, ints])
  simp only [prv_ex1, awl_regs, awl_regf, wpLPs_nil, wpLPs_cons, frzL_nil, frzL_cons, normRows_kis, normRows_drs, normRows_ints, Qs, q_AOp_dst_eq_6, if_true, if_false, forall_eq_or_imp, forall_eq, bne_iff_ne, ne_eq, List.append_nil, List.mem_cons, Nat.reduceAdd, Nat.reduceEqDiff, Nat.reduceLeDiff, Nat.reduceLT, Nat.reduceBEq, List.not_mem_nil]
  refine call_s (e17 ex1 ⟨[1, 2], [2, 3], 1⟩) ?_ (ha := by simp [lendL, lendO, lookO, V.norm, norm_list, lst, normRows_kis, normRows_drs, encKi, ints])
  have m0 : (2 : Int) < ((drs ex1).length : Int) := by decide
  have m1 : (drs ex1).getD 2 [] = [.int .i64 3, .int .i64 2, .int .i64 100, .int .i64 50, .int .i64 90, .int .i64 1] := rfl
  have m2 : (drs ex1).set 2 [.int .i64 3, .int .i64 2, .int .i64 100, .int .i64 50, .int .i64 90, .int .i64 2] = drs ex2 := rfl
  have w3 : ((2 : Int) == 2) = true := rfl
  have w4 : ((0 : Int) == 0) = true := rfl
  simp only [prn_ex1, m0, l1, l2, m1, m2, awl_regs, awl_regf, wpLPs_nil, wpLPs_cons, frzL_nil, frzL_cons, normRows_kis, normRows_drs, normRows_ints, Qs, if_true, if_false, reduceCtorEq, List.append_nil, Nat.reduceAdd, Nat.reduceEqDiff, Nat.reduceBEq, vv f8r1.eq_1, uu f8b2.eq_1, vv f8r3.eq_1, uu f8b4.eq_1]
  refine call_s (d10 ex2) ?_ (ha := by simp [lendL, lendO, lookO, V.norm, norm_list, lst, normRows_kis, normRows_drs, ints])
  simp only [chk_ex2, w3, awl_regs, awl_regf, wpLPs_nil, wpLPs_cons, frzL_nil, frzL_cons, normRows_kis, normRows_drs, normRows_ints, Qs, if_true, Nat.reduceBEq]
  refine call_s (d10 []) ?_ (ha := by simp [lendL, V.norm, norm_list, lst, drs, lstC])
  have c0 : chkG [] = 0 := rfl
  simp only [c0, w4, awl_regs, awl_regf, wpLPs_nil, wpLPs_cons, frzL_nil, frzL_cons, normRows_kis, normRows_drs, normRows_ints, Qs, if_true, Nat.reduceBEq]
  refine call_lend (drs ex2) (n15 5 ex2) rfl (normRows_drs _) ?_
  have kn : ((kis ([] : List Ki)).length : Int) = 0 := rfl
  simp only [kit_ex2, kn, w4, awl_regs, awl_regf, wpLPs_nil, wpLPs_cons, frzL_nil, frzL_cons, normRows_kis, normRows_drs, normRows_ints, Qs, q_List_isEmpty_cons, if_true, if_false, List.nodup_nil, Nat.reduceBEq]
  exact hS
end Go.Abs


set_option maxRecDepth 100000
set_option maxHeartbeats 4000000
namespace Go.Abs
open Go.Proofs Go.RowKit
structure KLaw (l : List Dr) (K : Ki) : Prop where
  link : linkedG l K.dr = true
  flen : K.fi.length = K.dr.length
  two : 2 ≤ K.dr.length
  max : K.dr.length ≤ 100
  part : ∀ a b, a < b → b < K.dr.length → b - a + 1 < K.dr.length → linkedG l ((K.dr.drop a).take (b + 1 - a)) = false
  mo : moT l K.dr K.dr.length = K.mo
  at_ : ∀ a, a < K.dr.length → 0 ≤ K.dr.getD a 0 ∧ K.dr.getD a 0 < l.length ∧ K.fi.getD a 0 = (dat l (K.dr.getD a 0)).d
theorem kite_law {l : List Dr} (hR : RightD l) {K : Ki} (hK : K ∈ kitesR l) : KLaw l K := by
  obtain ⟨x, k, hk⟩ := ((kitesR_spec hR.cov).2 K).1 hK
  have hv := hk.2.1.1.2.1
  have hd := hv.dec hR.cov k (Nat.le_refl k)
  have h0 := hv.2 k (Nat.le_refl k)
  have h1 := hv.1
  have hl := hR.len
  have hdr : K.dr = chn l x k := by rw [hk.2.2]; rfl
  have hfi : K.fi = (chn l x k).map fun i => (dat l i).d := by rw [hk.2.2]; rfl
  have hmo : K.mo = sumI ((chn l x k).dropLast.map (ownAt l)) := by rw [hk.2.2]; rfl
  have hlen := hk.len.1
  have hk1 := hk.2.1.1.1
  refine ⟨by rw [hdr]; exact (linked_chn hR.cov hv).2 hk.2.1.1, by rw [hfi, List.length_map, hdr], by omega, by omega, fun a b hab hb hs => ?_, ?_, fun a ha => ?_⟩
  · rw [hlen] at hb hs
    rw [hdr]
    exact hk.2.1.part hR.cov hab (by omega) (by omega)
  · unfold moT
    rw [hmo, hdr, List.take_of_length_le (by rw [List.length_dropLast]; omega)]
  · rw [hlen] at ha
    rw [hdr, chn_getD (by omega)]
    have hr := hv.rng hR.cov (j := k - a) (by omega)
    refine ⟨hr.1, hr.2, ?_⟩
    rw [hfi, List.getD_eq_getElem?_getD, List.getElem?_map, List.getElem?_eq_getElem (by rw [chn_len]; omega), chn_at]
    rfl
theorem kitesG_mem {l : List Dr} (h : chkG l = 0) {K : Ki} (hK : K ∈ kitesG l) : K ∈ kitesR l := by unfold kitesG at hK; rwa [if_pos h] at hK
end Go.Abs


set_option maxRecDepth 100000
namespace Go.Abs
section
variable {P : Program}
theorem shapeL6 {S : TypeId → List C → Prop} {a b c d e f : TypeId} {rs : List (List C)} (h : ShapeL S [a, b, c, d, e, f] rs) : ∃ x y z u v w, rs = [x, y, z, u, v, w] ∧ S a x ∧ S b y ∧ S c z ∧ S d u ∧ S e v ∧ S f w := by
  match rs, h with
  | [x, y, z, u, v, w], h => exact ⟨x, y, z, u, v, w, rfl, h.1, h.2.1, h.2.2.1, h.2.2.2.1, h.2.2.2.2.1, h.2.2.2.2.2.1⟩
theorem shape_dr {n : Nat} {t tI : TypeId} {fs : Array Field} {r : List C} (ht : P.underlying t = some (.struct fs)) (hf : fs.toList.map (·.type) = [tI, tI, tI, tI, tI, tI]) (hi : P.underlying tI = some (.int .i64)) (hr : Shape P n t r) : ∃ x : Dr, r = encD x := by
  obtain ⟨m, rs, _, rfl, h⟩ := shape_struct ht hr
  rw [hf] at h
  obtain ⟨x, y, z, u, v, w, rfl, h1, h2, h3, h4, h5, h6⟩ := shapeL6 h
  obtain ⟨a1, rfl, _⟩ := shape_int hi h1
  obtain ⟨a2, rfl, _⟩ := shape_int hi h2
  obtain ⟨a3, rfl, _⟩ := shape_int hi h3
  obtain ⟨a4, rfl, _⟩ := shape_int hi h4
  obtain ⟨a5, rfl, _⟩ := shape_int hi h5
  obtain ⟨a6, rfl, _⟩ := shape_int hi h6
  exact ⟨⟨a1, a2, a3, a4, a5, a6⟩, rfl⟩
theorem arg_drs {n : Nat} {t e tI : TypeId} {fs : Array Field} {r : List C} (ht : P.underlying t = some (.slice e)) (he : P.underlying e = some (.struct fs)) (hf : fs.toList.map (·.type) = [tI, tI, tI, tI, tI, tI]) (hi : P.underlying tI = some (.int .i64)) (hc : P.cellsOf e = 6)
    (hr : Shape P n t r) : ∃ l : List Dr, argV P t r = lst 6 (drs l) := by
  obtain ⟨m, rows, _, rfl, _, h⟩ := shape_slice ht hr
  obtain ⟨l, rfl⟩ := rows_of encD (fun r hr => shape_dr he hf hi hr) rows h
  exact ⟨l, by simp only [argV, ht, hc]; rfl⟩
end
end Go.Abs
namespace Go.Proofs.Ytefmlddbkmgliaa
open Go.Abs Go.RowKit
theorem own : ownKnob Try.prog.godebug = none := by kernel_rfl
theorem kids : Kids Try.prog (· < Try.prog.types.size) := kids_rows (by kernel_rfl) (by kernel_rfl)
theorem full : ∀ t e, t < Try.prog.types.size → Try.prog.underlying t = some (.slice e) → 0 < Try.prog.cellsOf e := slices_full_of Try.prog (by kernel_rfl)
def plainTs : List TypeId := [3, 4, 5, 22, 23, 25, 40, 45]
theorem plainTs_ok : plainT Try.prog plainTs = true := by kernel_rfl
theorem plainTs_lt : ∀ t ∈ plainTs, t < Try.prog.types.size := by
  have : plainTs.all (fun t => decide (t < Try.prog.types.size)) = true := by kernel_rfl
  simpa using this
theorem u8_in {m : Int} (h : (Lit.int .u8 m).wf = true) : 0 ≤ m ∧ m < 256 := by
  have := (Lit.wf_int_iff _ _).1 h
  simp [IntKind.min, IntKind.max, IntKind.signed, IntKind.bits] at this
  omega
theorem u16_in {m : Int} (h : (Lit.int .u16 m).wf = true) : 0 ≤ m ∧ m < 65536 := by
  have := (Lit.wf_int_iff _ _).1 h
  simp [IntKind.min, IntKind.max, IntKind.signed, IntKind.bits] at this
  omega
end Go.Proofs.Ytefmlddbkmgliaa


set_option maxRecDepth 100000
set_option maxHeartbeats 4000000
namespace Go.Abs
open Go.Proofs Go.RowKit
theorem cut_row {l : List Dr} {x : Int} (h0 : 0 ≤ x) (hx : x < l.length) : (drs l).set x.toNat [.int .i64 (dat l x).d, .int .i64 (dat l x).a, .int .i64 (dat l x).s, .int .i64 (dat l x).y, .int .i64 (dat l x).u, .int .i64 (-1)] = drs (cutD l x) := by
  unfold drs cutD
  rw [List.map_set]; rfl
theorem grow_row {l : List Dr} {x t : Int} (h0 : 0 ≤ x) (hx : x < l.length) : (drs l).set x.toNat [.int .i64 (dat l x).d, .int .i64 (dat l x).a, .int .i64 t, .int .i64 (dat l x).y, .int .i64 (dat l x).u, .int .i64 (dat l x).c] = drs (l.set x.toNat ((dat l x).toS t)) := by
  unfold drs
  rw [List.map_set]; rfl
theorem own_grown {l : List Dr} (hR : RightD l) (hc : chkG l = 0) {x t i : Int} (h0 : 0 ≤ x) (hx : x < l.length) (ht : (dat l x).s ≤ t) (hi : 0 ≤ i) (hil : i < l.length) (hix : i ≠ x) : ownG (l.set x.toNat ((dat l x).toS t)) i ≤ ownG l i := by
  rw [ownG_right hc hi hil]
  unfold ownG
  split
  · exact (own_facts hR.sum hi hil).1
  · exact grown_own h0 hx ht hi hix
theorem l7 (l : List Dr) (which more : Int) (hw : 0 ≤ which ∧ which < 256) (hm : 0 ≤ more ∧ more < 65536) : Spec Try.prog 7 [lst 6 (drs l), .int .u8 which, .int .u16 more] (fun r => r = .bool true) := by
  refine Spec.of_awlS hf7 okf7 (by simp) fun S hS => ?_
  simp only [Qs, Nat.reduceAdd, uu f7.eq_1, vv f7r108.eq_1, uu f7b109.eq_1, vv f7r110.eq_1, uu f7b111.eq_1]
  refine call_s e8 ?_
  by_cases h1 : (l.length : Int) > 20
  · simp only [h1, drs_len, normRows_drs, Qs, if_true, List.nodup_nil, Nat.reduceBEq, vv f7r102.eq_1, uu f7b103.eq_1, uu f7b104.eq_1, vv f7r105.eq_1, uu f7b106.eq_1, uu f7b107.eq_1]; exact hS
  simp only [h1, drs_len, normRows_drs, Qs, if_true, Nat.reduceBEq, vv f7r105.eq_1, uu f7b106.eq_1, uu f7b107.eq_1]
  refine call_s (d10 l) ?_ (ha := by simp [lendL, V.norm, lst, normRows_drs])
  by_cases h : chkG l = 0
  case neg =>
    have hb : (chkG l != 0) = true := by simpa using h
    simp only [hb, Qs, if_true, if_false, List.nodup_nil, Nat.reduceBEq, vv f7r102.eq_1, uu f7b103.eq_1, uu f7b104.eq_1]; exact hS
  have hb : (chkG l != 0) = false := by simpa using h
  have hR := right_of h
  simp only [hb, Qs, if_true, if_false, Nat.reduceBEq, uu f7b98.eq_1, vv f7r99.eq_1, uu f7b100.eq_1, uu f7b101.eq_1, uu f7b104.eq_1]
  rw [uu f7l97.eq_1]
  refine awl_loop (fun i : Nat => [(0, lst 6 (drs l)), (1, .int .u8 which), (2, .int .u16 more), (7, .bool true), (8, .int .i64 i)]) (fun _ => []) (fun i => i ≤ l.length) (fun i => l.length - i) 0 rfl rfl (Nat.zero_le _) ?_
  intro i hi
  by_cases hlt : i < l.length
  · have c1 : (i : Int) < l.length := by omega
    have i0 : (0 : Int) ≤ (i : Int) := by omega
    have c4 : IntKind.i64.wrap ((i : Int) + 1) = (i : Int) + 1 := wrap_in (by omega) (by omega)
    simp only [c1, drs_len, normRows_drs, Qs, if_true, Nat.reduceBEq, vv f7r65.eq_1, uu f7b85.eq_1, vv f7r86.eq_1, uu f7b87.eq_1, uu f7b88.eq_1, vv f7r89.eq_1, uu f7b90.eq_1, uu f7b91.eq_1, uu f7b92.eq_1, uu f7b93.eq_1, vv f7r94.eq_1, uu f7b95.eq_1, uu f7b96.eq_1]
    rw [uu f7l84.eq_1]
    refine awl_loop (fun j : Nat => [(0, lst 6 (drs l)), (1, .int .u8 which), (2, .int .u16 more), (7, .bool true), (8, .int .i64 i), (9, .int .i64 (covS (l.take j) i)), (10, .int .i64 j)]) (fun _ => []) (fun j => j ≤ l.length) (fun j => l.length - j) 0 rfl rfl (Nat.zero_le _) ?_
    intro j hj
    by_cases hjt : j < l.length
    · have e1 : (j : Int) < l.length := by omega
      have j0 : (0 : Int) ≤ (j : Int) := by omega
      have e4 : IntKind.i64.wrap ((j : Int) + 1) = (j : Int) + 1 := wrap_in (by omega) (by omega)
      have hat := drs_nat hjt
      have hn := covS_take hjt i
      have hsx := hR.sum _ (dat_mem (l := l) (i := (j : Int)) (by omega) (by omega))
      have hb1 := covS_bound (l := l.take j) (fun x hx => hR.sum x (List.mem_of_mem_take hx)) i
      have hb3 : (l.take j).length ≤ 20 := by rw [List.length_take]; omega
      have hb4 : ((l.take j).length : Int) * 1099511627776 ≤ 20 * 1099511627776 := Int.mul_le_mul_of_nonneg_right (by omega) (by omega)
      generalize dat l (j : Int) = x at hat hn hsx
      by_cases e : x.c = i
      · have eb : (x.c == (i : Int)) = true := by simpa using e
        rw [if_pos e] at hn
        have w : IntKind.i64.wrap (covS (l.take j) i + x.s) = covS (l.take (j + 1)) i := by rw [hn]; exact wrap_in (by omega) (by omega)
        simp only [e1, j0, e4, hat, eb, w, drs_len, normRows_drs, Int.toNat_natCast, Qs, if_true, Nat.reduceAdd, Nat.reduceLeDiff, Nat.reduceBEq, vv f7r73.eq_1, vv f7r74.eq_1, uu f7b75.eq_1, vv f7r76.eq_1, uu f7b77.eq_1, uu f7b78.eq_1, uu f7b79.eq_1, uu f7b80.eq_1, vv f7r81.eq_1, uu f7b82.eq_1, uu f7b83.eq_1]
        exact Next.intro (j + 1) rfl rfl (by omega) (by omega)
      · have eb : (x.c == (i : Int)) = false := by simpa using e
        rw [if_neg e, Int.add_zero] at hn
        simp only [e1, j0, e4, hat, eb, drs_len, normRows_drs, Int.toNat_natCast, Qs, if_true, Nat.reduceAdd, Nat.reduceBEq, vv f7r73.eq_1, vv f7r74.eq_1, uu f7b75.eq_1, vv f7r76.eq_1, uu f7b77.eq_1, uu f7b78.eq_1, uu f7b79.eq_1, uu f7b80.eq_1, vv f7r81.eq_1, uu f7b82.eq_1, uu f7b83.eq_1]
        exact Next.intro (j + 1) (by simp only [hn]; rfl) rfl (by omega) (by omega)
    · obtain rfl : j = l.length := by omega
      have e1 : ¬ (l.length : Int) < l.length := by omega
      rw [List.take_length]
      obtain ⟨o1, o2, o3, o4⟩ := own_facts hR.sum (i := (i : Int)) (by omega) (by omega)
      have hb1 := covS_bound hR.sum (i : Int)
      have hb4 : (l.length : Int) * 1099511627776 ≤ 20 * 1099511627776 := Int.mul_le_mul_of_nonneg_right (by omega) (by omega)
      have hsx := hR.sum _ (dat_mem (l := l) (i := (i : Int)) (by omega) (by omega))
      have hog := ownG_right h (i := (i : Int)) (by omega) (by omega)
      have hat := drs_nat hlt
      have g12 := d12 l i
      rw [hog] at g12
      generalize dat l (i : Int) = x at hat o2 o3 o4 hsx
      generalize ownAt l (i : Int) = ow at o1 o2 o3 o4 g12
      generalize covS l (i : Int) = cv at o3 o4 hb1
      have w1 : IntKind.i64.wrap (ow + cv) = ow + cv := wrap_in (by omega) (by omega)
      have t1 : ¬ ow < 0 := by omega
      have t2 : ¬ ow > x.s := by omega
      have t3 : ¬ ow + cv < x.s := by omega
      simp only [e1, drs_len, normRows_drs, Qs, if_true, if_false, reduceCtorEq, Nat.reduceBEq, vv f7r71.eq_1, uu f7b72.eq_1, uu f7b80.eq_1, vv f7r81.eq_1, uu f7b82.eq_1, uu f7b83.eq_1]
      refine call_s g12 ?_ (ha := by simp [lendL, V.norm, lst, normRows_drs])
      by_cases t4 : ow > 0
      · have t5 : (ow + cv != x.s) = false := by have := o4 t4; simp; omega
        simp only [c1, i0, c4, hat, w1, t1, t2, t3, t4, t5, drs_len, normRows_drs, Int.toNat_natCast, Qs, if_true, if_false, Nat.reduceAdd, Nat.reduceLeDiff, Nat.reduceBEq, uu f7b68.eq_1, vv f7r69.eq_1, uu f7b70.eq_1]
        exact Next.intro (i + 1) rfl rfl (by omega) (by omega)
      · simp only [c1, i0, c4, hat, w1, t1, t2, t3, t4, drs_len, normRows_drs, Int.toNat_natCast, Qs, if_true, if_false, Nat.reduceAdd, Nat.reduceLeDiff, Nat.reduceBEq, uu f7b68.eq_1, vv f7r69.eq_1, uu f7b70.eq_1]
        exact Next.intro (i + 1) rfl rfl (by omega) (by omega)
  · have c1 : ¬ (i : Int) < l.length := by omega
    have g15 : Spec Try.prog 15 [lst 6 (drs l)] (fun r => r = lst 3 (kis (kitesG l))) := d15 l
    have hksl := kitesG_len l
    simp only [c1, drs_len, normRows_drs, Qs, if_true, Nat.reduceBEq, vv f7r63.eq_1, uu f7b64.eq_1, uu f7b93.eq_1, vv f7r94.eq_1, uu f7b95.eq_1, uu f7b96.eq_1]
    refine call_r g15 ?_ (ha := by simp [lendL, V.norm, lst, normRows_drs])
    by_cases hk0 : kitesG l = []
    · have hz : (((kitesG l).length : Int) == 0) = true := by rw [hk0]; rfl
      simp only [hz, kis_len, Qs, if_true, List.nodup_nil, Nat.reduceBEq, vv f7r57.eq_1, uu f7b58.eq_1, uu f7b59.eq_1, vv f7r60.eq_1, uu f7b61.eq_1, uu f7b62.eq_1]
      exact hS
    have hz : (((kitesG l).length : Int) == 0) = false := by have := List.length_pos_iff.2 hk0; simp; omega
    have hpos := List.length_pos_iff.2 hk0
    have w1 : IntKind.i64.wrap which = which := wrap_in (by omega) (by omega)
    have hne : ((kitesG l).length : Int) ≠ 0 := by omega
    have tf := Int.tmod_eq_emod_of_nonneg (b := ((kitesG l).length : Int)) hw.1
    have f0 := Int.emod_nonneg which hne
    have f1 := Int.emod_lt_of_pos which (show (0 : Int) < (kitesG l).length by omega)
    rw [← tf] at f0 f1
    generalize hq : which.tmod ((kitesG l).length : Int) = q at f0 f1
    have hqt : q.toNat < (kitesG l).length := by omega
    have hka : (kis (kitesG l)).getD q.toNat [] = [lstC 1 (ints (kitesG l)[q.toNat].dr), lstC 1 (ints (kitesG l)[q.toNat].fi), .int .i64 (kitesG l)[q.toNat].mo] := kis_at hqt
    have hKm : (kitesG l)[q.toNat] ∈ kitesG l := List.getElem_mem hqt
    generalize (kitesG l)[q.toNat] = K at hka hKm
    have kl := kite_law hR (kitesG_mem h hKm)
    obtain ⟨k1, k2, k3, k4, k5, k6, k7⟩ := kl
    have hd2 : ¬ (K.dr.length : Int) < 2 := by omega
    simp only [hz, w1, hne, hq, f0, f1, hka, hd2, kis_len, ints_len, normRows_drs, normRows_ints, Qs, q_exL_eq_16, q_cutInt_eq_5, q_vConv_eq_1, if_true, if_false, ne_eq, List.append_nil, Nat.reduceAdd, Nat.reduceLeDiff, Nat.reduceBEq, vv f7r52.eq_1, uu f7b53.eq_1, uu f7b54.eq_1, vv f7r55.eq_1, uu f7b56.eq_1, uu f7b59.eq_1, vv f7r60.eq_1, uu f7b61.eq_1, uu f7b62.eq_1]
    refine call_s (e22 l K.dr) ?_ (ha := by simp [lendL, V.norm, lst, normRows_drs])
    rw [k1]
    obtain ⟨p, hp⟩ : ∃ p, K.dr.length = p + 1 := ⟨K.dr.length - 1, by omega⟩
    have wp : IntKind.i64.wrap ((K.dr.length : Int) - 1) = (p : Int) := by rw [wrap_in (by omega) (by omega)]; omega
    have p0 : (0 : Int) ≤ (p : Int) := by omega
    have p1 : (p : Int) < K.dr.length := by omega
    obtain ⟨x, hx⟩ : ∃ x, K.dr.getD p 0 = x := ⟨_, rfl⟩
    have hcp : (ints K.dr).getD p [] = [.int .i64 x] := by rw [ints_getD (by omega), hx]
    obtain ⟨x0, x1, _⟩ := k7 p (by omega)
    rw [hx] at x0 x1
    have hax := drs_dat x0 x1
    have q1 : l.length ≤ 9223372036854775807 := by omega
    have q2 : l.length * 48 ≤ 140737488355328 := by omega
    have hcut := cut_row x0 x1
    simp only [wp, p0, p1, hcp, x0, x1, hax, q1, q2, hcut, drs_len, ints_len, normRows_drs, normRows_ints, List.nil_append, Int.toNat_natCast, Qs, if_true, if_false, reduceCtorEq, implies_true, bne_iff_ne, ne_eq, Int.reduceNeg, List.append_nil, Nat.reduceAdd, Nat.reduceEqDiff, Nat.reduceLeDiff, Nat.reduceBEq, List.not_mem_nil, implies_true, vv f7r41.eq_1, uu f7b42.eq_1, vv f7r43.eq_1, uu f7b44.eq_1, vv f7r45.eq_1, uu f7b46.eq_1, vv f7r47.eq_1, uu f7b48.eq_1, uu f7b51.eq_1]
    have g15c : Spec Try.prog 15 [lst 6 (drs (cutD l x))] (fun r => r = lst 3 (kis (kitesG (cutD l x)))) := d15 _
    have q3 : (drs (cutD l x)).length ≤ 9223372036854775807 := by rw [drs_len]; simp [cutD]; omega
    refine call_o 131 (by simp [look, lookT]) g15c (by simp [lendL, lendO, lookO, V.isPure]) (by simp [lendL, lendO, lookO, V.norm, norm_list, lst, normRows_drs]) (by simp [V.toks, Abs.K.toks]) (by simp [lookO, plainO]) rfl ?_
    simp only [kis_len, normRows_kis, normRows_drs, Qs, if_true, if_false, Nat.reduceEqDiff, z_K_pel, uu f7b37.eq_1, vv f7r38.eq_1, uu f7b39.eq_1, uu f7b40.eq_1]
    have hxe : K.dr.getD (K.dr.length - 1) 0 = x := by rw [show K.dr.length - 1 = p by omega]; exact hx
    have hleft : ∀ L ∈ kitesG (cutD l x), (kitesG l).any (fun J => decide (L.dr = J.dr)) = true ∧ L.dr ≠ K.dr := by
      intro L hL
      have hL : L ∈ kitesR (cutD l x) := by
        unfold kitesG at hL
        split at hL
        · exact hL
        · simp at hL
      obtain ⟨⟨J, hJ, hJd⟩, hn⟩ := cut_kite hR.cov x0 x1 hL
      refine ⟨?_, fun e => hn (by rw [e]; exact hxe)⟩
      rw [List.any_eq_true]
      exact ⟨J, by unfold kitesG; rw [if_pos h]; exact hJ, by simp [hJd]⟩
    have hll := kitesG_len (cutD l x)
    generalize kitesG (cutD l x) = left at hleft hll
    generalize kitesG l = ks at hleft hksl
    have hcx : 0 ≤ (dat l x).c ∧ (dat l x).c < l.length ∧ (dat l x).c ≠ x := by
      have hk1 := k1
      unfold linkedG at hk1
      rw [Bool.and_eq_true, List.all_eq_true] at hk1
      have h3 := of_decide_eq_true (hk1.1 p (List.mem_range.2 (by omega)))
      rw [hx] at h3
      have h4 := h3.2.2 (by omega)
      have h5 := k7 (p - 1) (by omega)
      rcases hR.cov x x0 x1 with h6 | h6 <;> omega
    rw [uu f7l36.eq_1]
    refine awl_loop (fun i : Nat => [(0, lst 6 (drs l)), (2, .int .u16 more), (7, .bool true), (12, lst 3 (kis ks)), (13, V.k (Abs.K.ptr 13 0)), (14, .int .i64 x), (16, lst 3 (kis left)), (17, .int .i64 i)]) (fun _ => [(13, O.var 25 [Abs.K.c (lstC 1 (ints K.dr)), Abs.K.c (lstC 1 (ints K.fi)), Abs.K.c (C.int IntKind.i64 K.mo)])]) (fun i => i ≤ left.length) (fun i => left.length - i) 0 rfl rfl (Nat.zero_le _) ?_
    intro i hi
    by_cases hlt : i < left.length
    · have c1 : (i : Int) < left.length := by omega
      have i0 : (0 : Int) ≤ (i : Int) := by omega
      have c4 : IntKind.i64.wrap ((i : Int) + 1) = (i : Int) + 1 := wrap_in (by omega) (by omega)
      have hla : (kis left).getD i [] = [lstC 1 (ints left[i].dr), lstC 1 (ints left[i].fi), .int .i64 left[i].mo] := kis_at hlt
      obtain ⟨hany, hdn⟩ := hleft _ (List.getElem_mem hlt)
      generalize left[i].dr = D at hla hany hdn
      simp only [c1, kis_len, Qs, if_true, Nat.reduceBEq, vv f7r9.eq_1, uu f7b24.eq_1, vv f7r25.eq_1, uu f7b26.eq_1, uu f7b27.eq_1, vv f7r28.eq_1, uu f7b29.eq_1, uu f7b30.eq_1, uu f7b31.eq_1, uu f7b32.eq_1, vv f7r33.eq_1, uu f7b34.eq_1, uu f7b35.eq_1]
      rw [uu f7l23.eq_1]
      refine awl_loop (fun j : Nat => [(0, lst 6 (drs l)), (2, .int .u16 more), (7, .bool true), (12, lst 3 (kis ks)), (13, V.k (Abs.K.ptr 13 0)), (14, .int .i64 x), (16, lst 3 (kis left)), (17, .int .i64 i), (18, .bool ((ks.take j).any fun J => decide (D = J.dr))), (19, .int .i64 j)]) (fun _ => [(13, O.var 25 [Abs.K.c (lstC 1 (ints K.dr)), Abs.K.c (lstC 1 (ints K.fi)), Abs.K.c (C.int IntKind.i64 K.mo)])]) (fun j => j ≤ ks.length) (fun j => ks.length - j) 0 rfl rfl (Nat.zero_le _) ?_
      intro j hj
      by_cases hjt : j < ks.length
      · have e1 : (j : Int) < ks.length := by omega
        have j0 : (0 : Int) ≤ (j : Int) := by omega
        have e4 : IntKind.i64.wrap ((j : Int) + 1) = (j : Int) + 1 := wrap_in (by omega) (by omega)
        have hja : (kis ks).getD j [] = [lstC 1 (ints ks[j].dr), lstC 1 (ints ks[j].fi), .int .i64 ks[j].mo] := kis_at hjt
        have hn : (ks.take (j + 1)).any (fun J => decide (D = J.dr)) = ((ks.take j).any (fun J => decide (D = J.dr)) || decide (D = ks[j].dr)) := by
          rw [List.take_succ_eq_append_getElem hjt, List.any_append]; simp
        generalize ks[j].dr = J at hja hn
        cases hw : (ks.take j).any fun J => decide (D = J.dr) with
        | true =>
          rw [hw, Bool.true_or] at hn
          simp only [e1, j0, e4, hw, kis_len, Qs, if_true, Nat.reduceBEq, vv f7r15.eq_1, vv f7r16.eq_1, uu f7b17.eq_1, uu f7b18.eq_1, uu f7b19.eq_1, vv f7r20.eq_1, uu f7b21.eq_1, uu f7b22.eq_1]
          exact Next.intro (j + 1) (by simp only [hn]; rfl) rfl (by omega) (by omega)
        | false =>
          rw [hw, Bool.false_or] at hn
          simp only [e1, j0, i0, c1, e4, hw, hla, hja, kis_len, Int.toNat_natCast, Qs, if_true, Nat.reduceLeDiff, Nat.reduceBEq, vv f7r15.eq_1, vv f7r16.eq_1, uu f7b17.eq_1, uu f7b18.eq_1, uu f7b19.eq_1, vv f7r20.eq_1, uu f7b21.eq_1, uu f7b22.eq_1]
          refine callQ_s (e19 D J) ?_ (ha := by simp [lendL, V.norm, norm_list, lst, normRows_ints])
          simp only [e4, Qs, if_true, if_false, Nat.reduceBEq]
          exact Next.intro (j + 1) (by simp only [hn]; rfl) rfl (by omega) (by omega)
      · obtain rfl : j = ks.length := by omega
        have e1 : ¬ (ks.length : Int) < ks.length := by omega
        rw [List.take_length, hany]
        have hdk : decide (D = K.dr) = false := decide_eq_false hdn
        simp only [e1, i0, c1, c4, hla, kis_len, Int.toNat_natCast, Qs, if_true, if_false, Nat.reduceAdd, Nat.reduceEqDiff, Nat.reduceLeDiff, Nat.reduceBEq, vv f7r13.eq_1, uu f7b14.eq_1, uu f7b19.eq_1, vv f7r20.eq_1, uu f7b21.eq_1, uu f7b22.eq_1]
        refine callQ_s (e19 D K.dr) ?_ (ha := by simp [lendL, V.norm, norm_list, lst, normRows_ints])
        simp only [c4, hdk, Qs, if_true, if_false, Nat.reduceBEq, uu f7b12.eq_1]
        exact Next.intro (i + 1) rfl rfl (by omega) (by omega)
    · have c1 : ¬ (i : Int) < left.length := by omega
      have wm : IntKind.i64.wrap more = more := wrap_in (by omega) (by omega)
      have hsx := hR.sum _ (dat_mem x0 x1)
      obtain ⟨T, hT⟩ : ∃ T, (if (dat l x).s + more < 1099511627776 then (dat l x).s + more else 1099511627776) = T := ⟨_, rfl⟩
      have hTs : (dat l x).s ≤ T := by
        rw [← hT]; split <;> omega
      have hgr := grow_row (t := T) x0 x1
      have hog := own_grown hR h x0 x1 hTs hcx.1 hcx.2.1 hcx.2.2
      have g1 := d12 (l.set x.toNat ((dat l x).toS T)) (dat l x).c
      have g2 := d12 l (dat l x).c
      generalize ownG l (dat l x).c = o2 at hog g2
      generalize ownG (l.set x.toNat ((dat l x).toS T)) (dat l x).c = o1 at hog g1
      generalize l.set x.toNat ((dat l x).toS T) = gl at hgr g1
      generalize dat l x = X at hax hsx hgr hT g1 g2
      have wa : IntKind.i64.wrap (X.s + more) = X.s + more := wrap_in (by omega) (by omega)
      simp only [c1, wm, wa, x0, x1, hax, q1, q2, kis_len, drs_len, normRows_drs, List.nil_append, Int.toNat_natCast, Qs, q_exL_eq_16, q_vConv_eq_1, if_true, if_false, reduceCtorEq, implies_true, bne_iff_ne, ne_eq, Nat.reduceAdd, Nat.reduceEqDiff, Nat.reduceLeDiff, Nat.reduceBEq, List.not_mem_nil, implies_true, vv f7r1.eq_1, uu f7b2.eq_1, vv f7r3.eq_1, uu f7b4.eq_1, vv f7r5.eq_1, uu f7b6.eq_1, vv f7r7.eq_1, uu f7b8.eq_1, uu f7b32.eq_1, vv f7r33.eq_1, uu f7b34.eq_1, uu f7b35.eq_1]
      rw [hT, hgr]
      refine call_s g1 ?_ (ha := by simp [lendL, lendO, lookO, V.norm, norm_list, lst, normRows_drs])
      simp only [normRows_drs, Qs, Nat.reduceBEq]
      refine call_s g2 ?_ (ha := by simp [lendL, V.norm, norm_list, lst, normRows_drs])
      simp only [hog, Qs, if_true, List.nodup_nil, Nat.reduceBEq]
      exact hS
end Go.Abs


set_option maxRecDepth 100000
namespace Go.Proofs.Ytefmlddbkmgliaa
open Go.Abs Go.RowKit
theorem spec7 (xs : List V) (h : ArgsOf Try.prog [22, 5, 45] xs) : Go.Abs.Spec Try.prog 7 xs (fun r => r = .bool true) := by
  match xs, h with
  | [a0, a1, a2], ⟨⟨_, _, h0, q0⟩, ⟨_, _, h1, q1⟩, ⟨_, _, h2, q2⟩, _⟩ =>
    obtain ⟨x0, e0⟩ := arg_drs Try.underlying22 Try.underlying40 rfl Try.underlying3 (by kernel_rfl) h0
    obtain ⟨x1, e1, w1⟩ := arg_int Try.underlying5 h1
    obtain ⟨x2, e2, w2⟩ := arg_int Try.underlying45 h2
    rw [q0, q1, q2, e0, e1, e2]
    exact l7 x0 x1 x2 (u8_in w1) (u16_in w2)
theorem lifted7 (os : Os) (started : os.Started) (H : Type) (enc : TypeId × Value → H) :
    ReturnsInHanded {} Try.checked os 7 .any (Rows.kiteBreaksSpec.pre6 enc Try.prog Try.f7 Rows.kiteBreaksRow.domain false) (Rows.kiteBreaksSpec.post enc Try.prog Try.f7 Rows.kiteBreaksRow.apart Rows.kiteBreaksRow.fresh Rows.kiteBreaksRow.handsOn Rows.kiteBreaksRow.again) := by
  refine law_lifted (C := Try.checked) (T := plainTs) (tb := 4) own started (by kernel_rfl) Try.func7 ?_ plainTs_ok plainTs_lt ?_ kids full rfl ?_ ?_ Try.underlying4 (fun W => ⟨(fun _ _ h => nomatch h), (fun _ _ h => nomatch h)⟩) ?_
  · exact ChangeSpec.witness6 (enc := enc) (C := Try.checked) false ⟨#[], #[.slice none 0 0, .int .u8 0, .int .u16 0], []⟩ 8 (by kernel_rfl) (by kernel_rfl) (by kernel_rfl) (by kernel_rfl)
  · rw [Try.params7]; decide
  · intro ds hds
    rw [Try.params7] at hds
    match ds, hds with
    | [a0, a1, a2], _ => rfl
  · kernel_rfl
  · intro xs hxs
    rw [Try.params7] at hxs
    exact spec7 xs hxs
theorem KiteBreaks_holds : Rows.KiteBreaksSaid :=
  OpenClaim.holds_of_wide 7 Try.f7 rfl rfl rfl rfl rfl rfl rfl ⟨rfl, rfl, rfl, rfl, rfl⟩ rfl rfl rfl rfl rfl (by kernel_rfl) Try.func7 (by kernel_rfl)
    (of_decide_eq_true (by kernel_rfl)) (by unfold Func.isWrapper; first | (rw [if_pos (by decide +kernel)]; kernel_rfl) | (rw [if_neg (by decide +kernel)]; exact ⟨rfl, rfl⟩))
    (fun os started H enc _ => lifted7 os started H enc)
end Go.Proofs.Ytefmlddbkmgliaa

