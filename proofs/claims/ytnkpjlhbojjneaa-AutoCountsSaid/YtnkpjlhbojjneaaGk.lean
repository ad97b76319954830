/- What is told of two machines is shown. -/
import Derived.Test.YtnkpjlhbojjneaaGb
import Derived.Test.YtnkpjlhbojjneaaGj
import Derived.Test.YtnkpjlhbojjneaaGh
/- The conditions of functions, printed by wip/tools/gen.py. -/
namespace Go.Proofs.Ytnkpjlhbojjneaa.VC
open Go Go.RowKit

set_option maxRecDepth 100000 in
theorem s30 (D : Option Addr) (k e : Nat) (Db : Option Addr) (kb eb : Nat) (w : World) (R : Value → List (List Value) → World → Prop) (h :
    condK ((↑k : Int) != (↑kb : Int)) (R (Value.bool false) [] w) (∃ (I1 : Int → Lp), (I1 0).1 w ∧ ∀ (x2 : Int) (w3 : World), (I1 x2).1 w3 → ∀ (n4 : Nat), (I1 x2).m w3 = n4 → condK (decide (x2 < (↑k :
        Int))) (IxV D k 1 x2 fun (a5 : Addr) => ∃ (x6 : Int), w3.cell? a5 = some (Value.int IntKind.i64 x6) ∧ IxV Db kb 1 x2 fun (a7 : Addr) => ∃ (x8 : Int), w3.cell? a7 = some (Value.int IntKind.i64 x8) ∧
        condK (x6 != x8) (R (Value.bool false) [] w3) ((I1 (IntKind.i64.wrap (x2 + 1))).1 w3 ∧ (I1 (IntKind.i64.wrap (x2 + 1))).m w3 < n4)) (R (Value.bool true) [] w3))) :
    CallsI Try.prog 30 [(.slice D k e), (.slice Db kb eb)] w [] R :=
  vcFun_sound (H := ⟨[], [(0, [(5, .int .i64)], [])]⟩) (args := [.v (.slice D k e), .v (.slice Db kb eb)]) (L := []) goodP Try.func30 (by simp [okp]) (by rw [Try.ntmps30]; simp) (by simp [okp]) (Eq.mp (by kernel_rfl) h)

def J9_1 (w5 : World) (R : Value → List (List Value) → World → Prop) : Prop := CallsI Try.prog 15 [] w5 [] fun (v7 : Value) (l8 : List (List Value)) (w9 : World) => ∃ (t10 : Bool), v7 = Value.bool t10
    ∧ l8 = [] ∧ R (Value.bool t10) [] w9

set_option maxRecDepth 100000 in
theorem s9 (l s : Int) (A : Option Addr) (n c : Nat) (B : Option Addr) (m d : Nat) (lb sb : Int) (Ab : Option Addr) (nb cb : Nat) (Bb : Option Addr) (mb db : Nat) (D : Option Addr) (k e : Nat) (Db : Option Addr) (kb eb : Nat) (w : World) (R : Value → List (List Value) → World → Prop) (h :
    ∀ (_n1 _n2 : Nat), CallsI Try.prog 21 [Value.agg (Array.mk [Value.int IntKind.i64 l, Value.int IntKind.i64 s, Value.slice A n c, Value.slice B m d])] w [] fun (v3 : Value) (l4 : List (List Value)) (w5
        : World) => ∃ (t6 : Bool), v3 = Value.bool t6 ∧ l4 = [] ∧ condK (!t6) (J9_1 w5 R) (CallsI Try.prog 21 [Value.agg (Array.mk [Value.int IntKind.i64 lb, Value.int IntKind.i64 sb, Value.slice Ab nb cb,
        Value.slice Bb mb db])] w5 [] fun (v11 : Value) (l12 : List (List Value)) (w13 : World) => ∃ (t14 : Bool), v11 = Value.bool t14 ∧ l12 = [] ∧ condK (!t14) (J9_1 w13 R) (condK (decide ((↑k : Int) >
        1000)) (J9_1 w13 R) (CallsI Try.prog 28 [Value.agg (Array.mk [Value.int IntKind.i64 l, Value.int IntKind.i64 s, Value.slice A n c, Value.slice B m d]), Value.agg (Array.mk [Value.int IntKind.i64 lb,
        Value.int IntKind.i64 sb, Value.slice Ab nb cb, Value.slice Bb mb db]), Value.slice D k e] w13 [] fun (v23 : Value) (l24 : List (List Value)) (w25 : World) => ∃ (x26 : Int), v23 = Value.int
        IntKind.i64 x26 ∧ l24 = [] ∧ condK (x26 != 0) (J9_1 w25 R) (CallsI Try.prog 26 [Value.agg (Array.mk [Value.int IntKind.i64 l, Value.int IntKind.i64 s, Value.slice A n c, Value.slice B m d]), Value.agg
        (Array.mk [Value.int IntKind.i64 lb, Value.int IntKind.i64 sb, Value.slice Ab nb cb, Value.slice Bb mb db])] w25 [] fun (v31 : Value) (l32 : List (List Value)) (w33 : World) => ∃ (A34 : Option Addr),
        ∃ (n35 : Nat), ∃ (n36 : Nat), ∃ (t37 : Bool), ∃ (x38 : Int), v31 = Value.tuple (Array.mk [Value.slice A34 n35 n36, Value.bool t37, Value.int IntKind.i64 x38]) ∧ l32 = [] ∧ condK (x38 != 7) (R
        (Value.bool false) [] w33) (∃ (I39 : Int → Lp), (I39 0).1 w33 ∧ ∀ (x40 : Int) (w41 : World), (I39 x40).1 w41 → ∀ (n42 : Nat), (I39 x40).m w41 = n42 → condK (decide (x40 < (↑kb : Int))) (IxV Db kb 1
        x40 fun (a43 : Addr) => ∃ (A44 : Option Addr), ∃ (n45 : Nat), ∃ (n46 : Nat), w41.cell? a43 = some (Value.slice A44 n45 n46) ∧ IxV Db kb 1 x40 fun (a47 : Addr) => ∃ (A48 : Option Addr), ∃ (n49 : Nat),
        ∃ (n50 : Nat), w41.cell? a47 = some (Value.slice A48 n49 n50) ∧ CallsI Try.prog 20 [Value.agg (Array.mk [Value.int IntKind.i64 l, Value.int IntKind.i64 s, Value.slice A n c, Value.slice B m d]),
        Value.slice A44 n45 n46] w41 [] fun (v51 : Value) (l52 : List (List Value)) (w53 : World) => ∃ (t54 : Bool), v51 = Value.bool t54 ∧ l52 = [] ∧ w53.cell? a47 = some (Value.slice A48 n49 n50) ∧ CallsI
        Try.prog 20 [Value.agg (Array.mk [Value.int IntKind.i64 lb, Value.int IntKind.i64 sb, Value.slice Ab nb cb, Value.slice Bb mb db]), Value.slice A48 n49 n50] w53 [] fun (v55 : Value) (l56 : List (List
        Value)) (w57 : World) => ∃ (t58 : Bool), v55 = Value.bool t58 ∧ l56 = [] ∧ condK (!t54 == t58) (R (Value.bool false) [] w57) ((I39 (IntKind.i64.wrap (x40 + 1))).1 w57 ∧ (I39 (IntKind.i64.wrap (x40 +
        1))).m w57 < n42)) (J9_1 w41 R))))))) :
    CallsI Try.prog 9 [(.agg #[.int .i64 l, .int .i64 s, .slice A n c, .slice B m d]), (.agg #[.int .i64 lb, .int .i64 sb, .slice Ab nb cb, .slice Bb mb db]), (.slice D k e), (.slice Db kb eb)] w [] R :=
  vcFun_sound (H := ⟨[], [(0, [(12, .int .i64)], [])]⟩) (args := [.v (.agg #[.int .i64 l, .int .i64 s, .slice A n c, .slice B m d]), .v (.agg #[.int .i64 lb, .int .i64 sb, .slice Ab nb cb, .slice Bb mb db]), .v (.slice D k e), .v (.slice Db kb eb)]) (L := []) goodP Try.func9 (by simp [okp]) (by rw [Try.ntmps9]; simp) (by simp [okp]) (Eq.mp (by kernel_rfl) h)

def J7_1 (w5 : World) (R : Value → List (List Value) → World → Prop) : Prop := CallsI Try.prog 15 [] w5 [] fun (v7 : Value) (l8 : List (List Value)) (w9 : World) => ∃ (t10 : Bool), v7 = Value.bool t10
    ∧ l8 = [] ∧ R (Value.bool t10) [] w9

def J7_2 (I54 : Int → Lp) (x55 : Int) (w65 : World) (n57 : Nat) : Prop := (I54 (IntKind.i64.wrap (x55 + 1))).1 w65 ∧ (I54 (IntKind.i64.wrap (x55 + 1))).m w65 < n57

def J7_35 (x41 : Int) (x26 : Int) (n23 : Nat) (w44 : World) (R : Value → List (List Value) → World → Prop) : Prop := condK (x41 == x26) (condK ((↑n23 : Int) == 0) (J7_1 w44 R) (R (Value.bool false) []
    w44)) (R (Value.bool false) [] w44)

set_option maxRecDepth 100000 in
theorem s7 (l s : Int) (A : Option Addr) (n c : Nat) (B : Option Addr) (m d : Nat) (lb sb : Int) (Ab : Option Addr) (nb cb : Nat) (Bb : Option Addr) (mb db : Nat) (D : Option Addr) (k e : Nat) (w : World) (R : Value → List (List Value) → World → Prop) (h :
    ∀ (_n1 _n2 : Nat), CallsI Try.prog 21 [Value.agg (Array.mk [Value.int IntKind.i64 l, Value.int IntKind.i64 s, Value.slice A n c, Value.slice B m d])] w [] fun (v3 : Value) (l4 : List (List Value)) (w5
        : World) => ∃ (t6 : Bool), v3 = Value.bool t6 ∧ l4 = [] ∧ condK (!t6) (J7_1 w5 R) (CallsI Try.prog 21 [Value.agg (Array.mk [Value.int IntKind.i64 lb, Value.int IntKind.i64 sb, Value.slice Ab nb cb,
        Value.slice Bb mb db])] w5 [] fun (v11 : Value) (l12 : List (List Value)) (w13 : World) => ∃ (t14 : Bool), v11 = Value.bool t14 ∧ l12 = [] ∧ condK (!t14) (J7_1 w13 R) (CallsI Try.prog 26 [Value.agg
        (Array.mk [Value.int IntKind.i64 l, Value.int IntKind.i64 s, Value.slice A n c, Value.slice B m d]), Value.agg (Array.mk [Value.int IntKind.i64 lb, Value.int IntKind.i64 sb, Value.slice Ab nb cb,
        Value.slice Bb mb db])] w13 [] fun (v19 : Value) (l20 : List (List Value)) (w21 : World) => ∃ (A22 : Option Addr), ∃ (n23 : Nat), ∃ (n24 : Nat), ∃ (t25 : Bool), ∃ (x26 : Int), v19 = Value.tuple
        (Array.mk [Value.slice A22 n23 n24, Value.bool t25, Value.int IntKind.i64 x26]) ∧ l20 = [] ∧ CallsI Try.prog 26 [Value.agg (Array.mk [Value.int IntKind.i64 lb, Value.int IntKind.i64 sb, Value.slice Ab
        nb cb, Value.slice Bb mb db]), Value.agg (Array.mk [Value.int IntKind.i64 l, Value.int IntKind.i64 s, Value.slice A n c, Value.slice B m d])] w21 [] fun (v27 : Value) (l28 : List (List Value)) (w29 :
        World) => ∃ (A30 : Option Addr), ∃ (n31 : Nat), ∃ (n32 : Nat), ∃ (t33 : Bool), ∃ (x34 : Int), v27 = Value.tuple (Array.mk [Value.slice A30 n31 n32, Value.bool t33, Value.int IntKind.i64 x34]) ∧ l28 =
        [] ∧ CallsI Try.prog 27 [Value.agg (Array.mk [Value.int IntKind.i64 l, Value.int IntKind.i64 s, Value.slice A n c, Value.slice B m d]), Value.agg (Array.mk [Value.int IntKind.i64 lb, Value.int
        IntKind.i64 sb, Value.slice Ab nb cb, Value.slice Bb mb db])] w29 [] fun (v35 : Value) (l36 : List (List Value)) (w37 : World) => ∃ (A38 : Option Addr), ∃ (n39 : Nat), ∃ (n40 : Nat), ∃ (x41 : Int),
        v35 = Value.tuple (Array.mk [Value.slice A38 n39 n40, Value.int IntKind.i64 x41]) ∧ l36 = [] ∧ condK (x26 != x34) (R (Value.bool false) [] w37) (CallsI Try.prog 30 [Value.slice A30 n31 n32,
        Value.slice A22 n23 n24] w37 [] fun (v42 : Value) (l43 : List (List Value)) (w44 : World) => ∃ (t45 : Bool), v42 = Value.bool t45 ∧ l43 = [] ∧ condK (!t45) (R (Value.bool false) [] w44) (condK (x26 ==
        0) (condK (x41 != 8) (R (Value.bool false) [] w44) (condK (t25 == t33) (R (Value.bool false) [] w44) (CallsI Try.prog 20 [Value.agg (Array.mk [Value.int IntKind.i64 l, Value.int IntKind.i64 s,
        Value.slice A n c, Value.slice B m d]), Value.slice A22 n23 n24] w44 [] fun (v46 : Value) (l47 : List (List Value)) (w48 : World) => ∃ (t49 : Bool), v46 = Value.bool t49 ∧ l47 = [] ∧ condK (!t49 ==
        t25) (R (Value.bool false) [] w48) (CallsI Try.prog 20 [Value.agg (Array.mk [Value.int IntKind.i64 lb, Value.int IntKind.i64 sb, Value.slice Ab nb cb, Value.slice Bb mb db]), Value.slice A22 n23 n24]
        w48 [] fun (v50 : Value) (l51 : List (List Value)) (w52 : World) => ∃ (t53 : Bool), v50 = Value.bool t53 ∧ l51 = [] ∧ condK (t53 == t25) (R (Value.bool false) [] w52) (∃ (I54 : Int → Lp), (I54 0).1
        w52 ∧ ∀ (x55 : Int) (w56 : World), (I54 x55).1 w56 → ∀ (n57 : Nat), (I54 x55).m w56 = n57 → condK (decide (x55 < (↑n23 : Int))) (CallsI Try.prog 31 [Value.agg (Array.mk [Value.int IntKind.i64 l,
        Value.int IntKind.i64 s, Value.slice A n c, Value.slice B m d]), Value.int IntKind.i64 x55] w56 [] fun (v58 : Value) (l59 : List (List Value)) (w60 : World) => ∃ (x61 : Int), ∃ (x62 : Int), v58 =
        Value.tuple (Array.mk [Value.int IntKind.u64 x61, Value.int IntKind.i64 x62]) ∧ l59 = [] ∧ CallsI Try.prog 31 [Value.agg (Array.mk [Value.int IntKind.i64 lb, Value.int IntKind.i64 sb, Value.slice Ab
        nb cb, Value.slice Bb mb db]), Value.int IntKind.i64 x55] w60 [] fun (v63 : Value) (l64 : List (List Value)) (w65 : World) => ∃ (x66 : Int), ∃ (x67 : Int), v63 = Value.tuple (Array.mk [Value.int
        IntKind.u64 x66, Value.int IntKind.i64 x67]) ∧ l64 = [] ∧ condK (x62 != 0) (R (Value.bool false) [] w65) (condK (x67 != 0) (R (Value.bool false) [] w65) (condK (x61 != x66) (R (Value.bool false) []
        w65) (J7_2 I54 x55 w65 n57)))) (J7_1 w56 R)))))) (condK (x26 == 7) (condK (x41 != 0) (R (Value.bool false) [] w44) (CallsI Try.prog 28 [Value.agg (Array.mk [Value.int IntKind.i64 l, Value.int
        IntKind.i64 s, Value.slice A n c, Value.slice B m d]), Value.agg (Array.mk [Value.int IntKind.i64 lb, Value.int IntKind.i64 sb, Value.slice Ab nb cb, Value.slice Bb mb db]), Value.slice A38 n39 n40]
        w44 [] fun (v72 : Value) (l73 : List (List Value)) (w74 : World) => ∃ (x75 : Int), v72 = Value.int IntKind.i64 x75 ∧ l73 = [] ∧ condK (x75 != 0) (R (Value.bool false) [] w74) (∃ (I76 : Int → Lp), (I76
        0).1 w74 ∧ ∀ (x77 : Int) (w78 : World), (I76 x77).1 w78 → ∀ (n79 : Nat), (I76 x77).m w78 = n79 → condK (decide (x77 < (↑k : Int))) (IxV D k 1 x77 fun (a80 : Addr) => ∃ (A81 : Option Addr), ∃ (n82 :
        Nat), ∃ (n83 : Nat), w78.cell? a80 = some (Value.slice A81 n82 n83) ∧ IxV D k 1 x77 fun (a84 : Addr) => ∃ (A85 : Option Addr), ∃ (n86 : Nat), ∃ (n87 : Nat), w78.cell? a84 = some (Value.slice A85 n86
        n87) ∧ CallsI Try.prog 20 [Value.agg (Array.mk [Value.int IntKind.i64 l, Value.int IntKind.i64 s, Value.slice A n c, Value.slice B m d]), Value.slice A81 n82 n83] w78 [] fun (v88 : Value) (l89 : List
        (List Value)) (w90 : World) => ∃ (t91 : Bool), v88 = Value.bool t91 ∧ l89 = [] ∧ w90.cell? a84 = some (Value.slice A85 n86 n87) ∧ CallsI Try.prog 20 [Value.agg (Array.mk [Value.int IntKind.i64 lb,
        Value.int IntKind.i64 sb, Value.slice Ab nb cb, Value.slice Bb mb db]), Value.slice A85 n86 n87] w90 [] fun (v92 : Value) (l93 : List (List Value)) (w94 : World) => ∃ (t95 : Bool), v92 = Value.bool
        t95 ∧ l93 = [] ∧ condK (!t91 == t95) (R (Value.bool false) [] w94) (J7_2 I76 x77 w94 n79)) (J7_1 w78 R)))) (condK (x26 == 1) (J7_35 x41 x26 n23 w44 R) (condK (x26 == 4) (J7_35 x41 x26 n23 w44 R) (R
        (Value.bool false) [] w44))))))))) :
    CallsI Try.prog 7 [(.agg #[.int .i64 l, .int .i64 s, .slice A n c, .slice B m d]), (.agg #[.int .i64 lb, .int .i64 sb, .slice Ab nb cb, .slice Bb mb db]), (.slice D k e)] w [] R :=
  vcFun_sound (H := ⟨[], [(1, [(15, .int .i64)], []), (3, [(20, .int .i64)], [])]⟩) (args := [.v (.agg #[.int .i64 l, .int .i64 s, .slice A n c, .slice B m d]), .v (.agg #[.int .i64 lb, .int .i64 sb, .slice Ab nb cb, .slice Bb mb db]), .v (.slice D k e)]) (L := []) goodP Try.func7 (by simp [okp]) (by rw [Try.ntmps7]; simp) (by simp [okp]) (Eq.mp (by kernel_rfl) h)

end Go.Proofs.Ytnkpjlhbojjneaa.VC

/- What is told of two machines is shown; pairs that are taken show it. -/
namespace Go.Proofs.Ytnkpjlhbojjneaa.VC
open Go Go.RowKit

theorem prun_append (a b : Mach) (p : IP) (u v : List Int) : prun a b p (u ++ v) = prun a b (prun a b p u) v := by
  unfold prun; rw [Mach.run_append, Mach.run_append]
/-- the word that parts two machines is short -/
theorem First.len {a b : Mach} {u : List Int} (h : First a b u) (ha : a.Shaped) (hb : b.Shaped) : (u.length : Int) + 1 ≤ (a.next.length + 1) * (b.next.length + 1) := by
  have ha0 := ha.start_range; have hb0 := hb.start_range
  have key : ∀ k l : Nat, k < l → l ≤ u.length → prun a b (a.start, b.start) (u.take k) ≠ prun a b (a.start, b.start) (u.take l) := by
    intro k l hkl hlu e
    have e1 : prun a b (a.start, b.start) (u.take k ++ u.drop l) = prun a b (a.start, b.start) u := by
      rw [prun_append, e, ← prun_append, List.take_append_drop]
    have h1 : a.run a.start (u.take k ++ u.drop l) = a.run a.start u := congrArg Prod.fst e1
    have h2 : b.run b.start (u.take k ++ u.drop l) = b.run b.start u := congrArg Prod.snd e1
    have := h.first (u.take k ++ u.drop l) (by unfold Mach.acc; rw [h1, h2]; exact h.parts)
    have hlen : (u.take k ++ u.drop l).length < u.length := by rw [List.length_append, List.length_take, List.length_drop]; omega
    rcases this with h3 | h3
    · rcases h3 with h3 | h3 <;> omega
    · rw [← h3] at hlen; omega
  have := pairs_bound (A := a.next.length) (B := b.next.length) (ps := (List.range (u.length + 1)).map fun k => prun a b (a.start, b.start) (u.take k)) ?_ fun p hp => ?_
  · rw [List.length_map, List.length_range] at this; omega
  · rw [List.nodup_iff_pairwise_ne, List.pairwise_map, List.pairwise_iff_getElem]
    intro i j hi hj hij
    rw [List.length_range] at hi hj
    simp only [List.getElem_range]
    exact key i j hij (by omega)
  · obtain ⟨k, _, rfl⟩ := List.mem_map.1 hp
    exact ⟨ha.run_range ha0 _, hb.run_range hb0 _⟩
/-- shorter words are counted alike -/
theorem First.counts {a b : Mach} {u : List Int} (h : First a b u) (hl : a.letters = b.letters) {n : Int} (h0 : 0 ≤ n) (hn : n < u.length) : cnt a n = cnt b n := by
  unfold cnt
  rw [cw_words hl n.toNat a.start b.start fun v hv _ => Classical.byContradiction fun hne => ?_]
  rcases h.first v hne with h3 | h3
  · rcases h3 with h3 | h3 <;> omega
  · rw [h3] at hn; omega
theorem fitc_comm (a b : Mach) : fitc a b = fitc b a := by
  unfold fitc
  simp only [eq_comm (a := a.letters) (b := b.letters)]
  by_cases h : a.Valid ∧ b.Valid
  · rw [if_pos h, if_pos h.symm]
  · rw [if_neg h, if_neg fun k : b.Valid ∧ a.Valid => h k.symm]
theorem fitc_cases (a b : Mach) : fitc a b = 0 ∨ fitc a b = 1 ∨ fitc a b = 4 := by
  unfold fitc
  split
  · split
    · exact .inl rfl
    · exact .inr (.inr rfl)
  · exact .inr (.inl rfl)

theorem c30 {w : World} {v v' : Value} {u u' : List Int} {R : Res} (hu : SlI w v u) (hu' : SlI w v' u') (hl : u.length ≤ 1099511627776) (hR : R (.bool (decide (u = u'))) [] w) : CallsI Try.prog 30 [v, v'] w [] R := by
  obtain ⟨D, e, rfl, hD⟩ := hu
  obtain ⟨D', e', rfl, hD'⟩ := hu'
  refine s30 _ _ _ _ _ _ _ _ ?_
  have no : u ≠ u' → R (.bool false) [] w := fun h => by rw [decide_eq_false h] at hR; exact hR
  refine condK_bne (fun h => no fun e => h (by rw [e])) fun e1 => ?_
  refine ⟨fun x2 => ⟨fun w3 => w3 = w ∧ 0 ≤ x2 ∧ x2 ≤ u.length ∧ ∀ k : Nat, (k : Int) < x2 → u[k]? = u'[k]?, fun _ => (u.length - x2).toNat⟩, ⟨rfl, by omega, by omega, fun k h => by omega⟩, ?_⟩
  rintro x2 w3 ⟨rfl, h20, h21, hs⟩ n4 rfl
  refine condK_dec (fun hlt => ?_) fun hge => ?_
  · refine rd_int Ext.rfl' hD h20 hlt (K := fun x6 => IxV _ _ _ _ _) ?_
    refine rd_int Ext.rfl' hD' h20 (by omega) (K := fun x8 => condK _ _ _) ?_
    refine condK_bne (fun h => no fun e => h (by rw [e])) fun e2 => ?_
    rw [wrap_id (by omega) (by omega)]
    refine ⟨⟨rfl, by omega, by omega, fun k hk => ?_⟩, by simp only []; omega⟩
    by_cases e : (k : Int) = x2
    · have g1 := get_gi (l := u) h20 hlt
      have g2 := get_gi (l := u') (i := x2) h20 (by omega)
      have : x2.toNat = k := by omega
      rw [this] at g1 g2; rw [g1, g2, e2]
    · exact hs k (by omega)
  · have : u = u' := by
      apply List.ext_getElem? ; intro j
      by_cases hj : j < u.length
      · exact hs j (by omega)
      · rw [List.getElem?_eq_none (by omega), List.getElem?_eq_none (by omega)]
    rw [decide_eq_true this] at hR; exact hR

theorem c9 {w : World} {a b : Mach} {v u pv ws : Value} {ps : List IP} {us : List (List Int)} {R : Res} (ha : MachAt w a v) (la : a.Lim) (hb : MachAt w b u) (lb : b.Lim) (hp : SlP w pv ps) (hpl : ps.length ≤ 8796093021952)
    (hu : SlII w ws us) (hul : us.length ≤ 5864062014634) (hur : ∀ x ∈ us, x.length ≤ 17592186043904) (hR : ∀ w', Ext w w' → R (.bool true) [] w') : CallsI Try.prog 9 [v, u, pv, ws] w [] R := by
  have ha0 := ha; have hb0 := hb; have hp0 := hp
  obtain ⟨A, n, c, B, k, d, rfl⟩ := ha.form
  obtain ⟨A', n', c', B', k', d', rfl⟩ := hb.form
  obtain ⟨P, pc, rfl, hcap, hP⟩ := hp
  obtain ⟨D, dc, hs, rfl, hD, hDl, hDx⟩ := hu
  have awake : ∀ w', Ext w w' → J9_1 w' R := fun w' hE => c15 fun w2 hE2 => ⟨_, rfl, rfl, hR w2 (hE.trans' hE2)⟩
  refine s9 _ _ _ _ _ _ _ _ _ _ _ _ _ _ _ _ _ _ _ _ _ _ _ _ fun _ _ => c21 ha0 (fun hsa => ⟨_, rfl, rfl, ?_⟩) fun _ => ⟨_, rfl, rfl, awake w Ext.rfl'⟩
  refine condK_of (fun h => by cases h) fun _ => ?_
  refine c21 hb0 (fun hsb => ⟨_, rfl, rfl, ?_⟩) fun _ => ⟨_, rfl, rfl, awake w Ext.rfl'⟩
  refine condK_of (fun h => by cases h) fun _ => ?_
  refine condK_dec (fun _ => awake w Ext.rfl') fun hpk => ?_
  refine c28 ha0 hb0 hp0 la lb (by omega) fun w25 hE25 => ⟨_, rfl, rfl, ?_⟩
  refine condK_bne (fun _ => awake w25 hE25) fun hchk => ?_
  obtain ⟨hfit, _, hshown⟩ := checkc_ok.1 hchk
  have hv := fitc_ok.1 hfit
  have hw := hshown.words hv.1.shaped hv.2.1.shaped hv.2.2
  refine c26 (ha0.ext hE25) (hb0.ext hE25) la lb (fun h => absurd hfit h) (fun _ _ w33 hE33 => ?_) fun _ w33 wv u hE33 hu hul hf => absurd (hw u) hf.parts
  refine ⟨_, _, _, _, _, rfl, rfl, ?_⟩
  refine condK_bne (fun h => absurd rfl h) fun _ => ?_
  have hE : Ext w w33 := hE25.trans' hE33
  refine ⟨fun x40 => ⟨fun w41 => w41 = w33 ∧ 0 ≤ x40 ∧ x40 ≤ us.length, fun _ => (us.length - x40).toNat⟩, ⟨rfl, by omega, by omega⟩, ?_⟩
  rintro x40 w41 ⟨rfl, h400, h401⟩ n42 rfl
  refine condK_dec (fun hlt => ?_) fun _ => awake w41 hE
  refine rd_row hE hD hDl hDx h400 hlt fun A44 c46 r hr hrow => ?_
  refine ix_row hD hDl hDx h400 hlt fun a47 r2 A48 c50 hr2 hc47 hrow2 => ⟨A48, _, c50, hE.cell hc47, ?_⟩
  rw [hr] at hr2; injection hr2 with hr2; subst hr2
  have hrl := hur r (List.mem_of_getElem? hr)
  refine c20 (ha0.ext hE) la ⟨_, _, rfl, hE.row hrow⟩ (by omega) ⟨_, rfl, rfl, hE.cell hc47, ?_⟩
  refine c20 (hb0.ext hE) lb ⟨_, _, rfl, hE.row hrow2⟩ (by omega) ⟨_, rfl, rfl, ?_⟩
  refine condK_of (fun h => ?_) fun _ => ?_
  · rw [Mach.accepts_valid hv.1, Mach.accepts_valid hv.2.1, hw] at h; simp at h
  · rw [wrap_id (by omega) (by omega)]
    exact ⟨⟨rfl, by omega, by omega⟩, by simp only []; omega⟩

set_option maxHeartbeats 2000000 in
theorem c7 {w : World} {a b : Mach} {v u ws : Value} {us : List (List Int)} {R : Res} (ha : MachAt w a v) (la : a.Lim) (hb : MachAt w b u) (lb : b.Lim)
    (hu : SlII w ws us) (hul : us.length ≤ 5864062014634) (hur : ∀ x ∈ us, x.length ≤ 17592186043904) (hR : ∀ w', Ext w w' → R (.bool true) [] w') : CallsI Try.prog 7 [v, u, ws] w [] R := by
  have ha0 := ha; have hb0 := hb
  obtain ⟨A, n, c, B, k, d, rfl⟩ := ha.form
  obtain ⟨A', n', c', B', k', d', rfl⟩ := hb.form
  obtain ⟨D, dc, hs, rfl, hD, hDl, hDx⟩ := hu
  have awake : ∀ w', Ext w w' → J7_1 w' R := fun w' hE => c15 fun w2 hE2 => ⟨_, rfl, rfl, hR w2 (hE.trans' hE2)⟩
  refine s7 _ _ _ _ _ _ _ _ _ _ _ _ _ _ _ _ _ _ _ _ _ fun _ _ => c21 ha0 (fun hsa => ⟨_, rfl, rfl, ?_⟩) fun _ => ⟨_, rfl, rfl, awake w Ext.rfl'⟩
  refine condK_of (fun h => by cases h) fun _ => ?_
  refine c21 hb0 (fun hsb => ⟨_, rfl, rfl, ?_⟩) fun _ => ⟨_, rfl, rfl, awake w Ext.rfl'⟩
  refine condK_of (fun h => by cases h) fun _ => ?_
  have nilI : ∀ w : World, SlI w (.slice none 0 0) [] := fun w => ⟨none, 0, rfl, fun h => by simp [ints] at h⟩
  have hcomm := fitc_comm b a
  refine c26 ha0 hb0 la lb (fun hbad => ?_) (fun hfit hw w21 hE21 => ?_) fun hfit w21 wv1 x hE21 hx hxl hfst => ?_
  · -- not a fitting pair
    refine ⟨_, _, _, _, _, rfl, rfl, ?_⟩
    refine c26 hb0 ha0 lb la (fun _ => ?_) (fun h => absurd h (by rw [hcomm]; exact hbad)) fun h => absurd h (by rw [hcomm]; exact hbad)
    refine ⟨_, _, _, _, _, rfl, rfl, ?_⟩
    refine c27 ha0 hb0 la lb (fun _ => ?_) (fun h => absurd h hbad) (fun h => absurd h hbad) fun h => absurd h hbad
    refine ⟨_, _, _, _, rfl, rfl, ?_⟩
    refine condK_bne (fun h => absurd hcomm.symm h) fun _ => ?_
    refine c30 (nilI w) (nilI w) (by simp) ⟨_, rfl, rfl, ?_⟩
    refine condK_of (fun h => by simp at h) fun _ => ?_
    refine condK_beq (fun h => absurd h hbad) fun _ => ?_
    have h35 : J7_35 (fitc a b) (fitc a b) 0 w R := condK_beq (fun _ => condK_beq (fun _ => awake w Ext.rfl') fun h => absurd rfl h) fun h => absurd rfl h
    rcases fitc_cases a b with h | h | h
    · exact absurd h hbad
    · refine condK_beq (fun h2 => by omega) fun _ => ?_
      exact condK_beq (fun _ => h35) fun h2 => absurd h h2
    · refine condK_beq (fun h2 => by omega) fun _ => ?_
      refine condK_beq (fun h2 => by omega) fun _ => ?_
      exact condK_beq (fun _ => h35) fun h2 => absurd h h2
  · -- the same
    have hv := fitc_ok.1 hfit
    refine ⟨_, _, _, _, _, rfl, rfl, ?_⟩
    refine c26 (hb0.ext hE21) (ha0.ext hE21) lb la (fun h => absurd (by rw [hcomm]; exact hfit) h) (fun _ _ w29 hE29 => ?_) fun _ w29 wv x _ _ _ hf => absurd (hw x).symm hf.parts
    refine ⟨_, _, _, _, _, rfl, rfl, ?_⟩
    have hE29' : Ext w w29 := hE21.trans' hE29
    refine c27 (ha0.ext hE29') (hb0.ext hE29') la lb (fun h => absurd hfit h) (fun _ h => absurd hw h) (fun _ _ _ ps _ hnd hfo hgt => ?_) fun _ _ w37 pv qs hE37 hpv hsort hmem hlen => ?_
    · have h1 := hsa.1; have h2 := hsb.1
      have := found_few hv.1.shaped hv.2.1.shaped (by omega) (by omega) hnd hfo; omega
    have hpv0 := hpv
    obtain ⟨P, pc, rfl, hcap, hP⟩ := hpv
    refine ⟨_, _, _, _, rfl, rfl, ?_⟩
    refine condK_bne (fun h => absurd rfl h) fun _ => ?_
    refine c30 (nilI _) (nilI _) (by simp) ⟨_, rfl, rfl, ?_⟩
    refine condK_of (fun h => by simp at h) fun _ => ?_
    refine condK_beq (fun h => by omega) fun _ => ?_
    refine condK_beq (fun _ => ?_) fun h => absurd rfl h
    refine condK_bne (fun h => absurd rfl h) fun _ => ?_
    have hE37' : Ext w w37 := hE29'.trans' hE37
    refine c28 (ha0.ext hE37') (hb0.ext hE37') hpv0 la lb hlen fun w74 hE74 => ⟨_, rfl, rfl, ?_⟩
    rw [related_check hfit hw hsort hmem]
    refine condK_bne (fun h => absurd rfl h) fun _ => ?_
    have hE : Ext w w74 := hE37'.trans' hE74
    refine ⟨fun x77 => ⟨fun w78 => w78 = w74 ∧ 0 ≤ x77 ∧ x77 ≤ us.length, fun _ => (us.length - x77).toNat⟩, ⟨rfl, by omega, by omega⟩, ?_⟩
    rintro x77 w78 ⟨rfl, h770, h771⟩ n79 rfl
    refine condK_dec (fun hlt => ?_) fun _ => awake w78 hE
    refine rd_row hE hD hDl hDx h770 hlt fun A81 c83 r hr hrow => ?_
    refine ix_row hD hDl hDx h770 hlt fun a84 r2 A85 c87 hr2 hc84 hrow2 => ⟨A85, _, c87, hE.cell hc84, ?_⟩
    rw [hr] at hr2; injection hr2 with hr2; subst hr2
    have hrl := hur r (List.mem_of_getElem? hr)
    refine c20 (ha0.ext hE) la ⟨_, _, rfl, hE.row hrow⟩ (by omega) ⟨_, rfl, rfl, hE.cell hc84, ?_⟩
    refine c20 (hb0.ext hE) lb ⟨_, _, rfl, hE.row hrow2⟩ (by omega) ⟨_, rfl, rfl, ?_⟩
    refine condK_of (fun h => ?_) fun _ => ?_
    · rw [Mach.accepts_valid hv.1, Mach.accepts_valid hv.2.1, hw] at h; simp at h
    · rw [J7_2, wrap_id (by omega) (by omega)]
      exact ⟨⟨rfl, by omega, by omega⟩, by simp only []; omega⟩
  · -- apart
    have hv := fitc_ok.1 hfit
    have hx0 := hx
    obtain ⟨X, xc, rfl, hX⟩ := hx
    refine ⟨_, _, _, _, _, rfl, rfl, ?_⟩
    have hns : ¬ ∀ u, a.acc a.start u = b.acc b.start u := fun h => hfst.parts (h x)
    refine c26 (hb0.ext hE21) (ha0.ext hE21) lb la (fun h => absurd (by rw [hcomm]; exact hfit) h) (fun _ h => absurd (fun u => (h u).symm) hns) fun _ w29 wv2 y hE29 hy hyl hfst2 => ?_
    have exy : y = x := hfst2.unique hfst.symm
    subst exy
    have hy0 := hy
    obtain ⟨Y, yc, rfl, hY⟩ := hy
    refine ⟨_, _, _, _, _, rfl, rfl, ?_⟩
    have hE29' : Ext w w29 := hE21.trans' hE29
    refine c27 (ha0.ext hE29') (hb0.ext hE29') la lb (fun h => absurd hfit h) (fun _ _ w37 hE37 => ?_) (fun _ h => absurd h hns) fun _ h => absurd h hns
    refine ⟨_, _, _, _, rfl, rfl, ?_⟩
    have hE37' : Ext w w37 := hE29'.trans' hE37
    have hx37 := hx0.ext (hE29.trans' hE37)
    refine condK_bne (fun h => absurd rfl h) fun _ => ?_
    refine c30 (hy0.ext hE37) hx37 hyl ⟨_, rfl, rfl, ?_⟩
    rw [decide_eq_true rfl]
    refine condK_of (fun h => by cases h) fun _ => ?_
    refine condK_beq (fun _ => ?_) fun h => absurd rfl h
    refine condK_bne (fun h => absurd rfl h) fun _ => ?_
    refine condK_beq (fun h => absurd h hfst.parts) fun _ => ?_
    refine c20 (ha0.ext hE37') la hx37 (by omega) ⟨_, rfl, rfl, ?_⟩
    rw [Mach.accepts_valid hv.1]
    refine condK_of (fun h => by simp at h) fun _ => ?_
    refine c20 (hb0.ext hE37') lb hx37 (by omega) ⟨_, rfl, rfl, ?_⟩
    rw [Mach.accepts_valid hv.2.1]
    refine condK_beq (fun h => absurd h hfst.symm.parts) fun _ => ?_
    have hlen := hfst.len hv.1.shaped hv.2.1.shaped
    have h1 := hsa.1; have h2 := hsb.1
    have h3 : ((a.next.length : Int) + 1) * (b.next.length + 1) ≤ 31 * 31 := Int.mul_le_mul (by omega) (by omega) (by omega) (by omega)
    refine ⟨fun x55 => ⟨fun w56 => Ext w37 w56 ∧ 0 ≤ x55 ∧ x55 ≤ y.length, fun _ => (y.length - x55).toNat⟩, ⟨Ext.rfl', by omega, by omega⟩, ?_⟩
    rintro x55 w56 ⟨hE56, h550, h551⟩ n57 rfl
    have hE56' : Ext w w56 := hE37'.trans' hE56
    refine condK_dec (fun hlt => ?_) fun _ => awake w56 hE56'
    refine c31 (ha0.ext hE56') la (fun h => absurd ⟨hv.1, h550, by omega⟩ h) fun _ _ _ w60 hE60 => ?_
    refine ⟨_, _, rfl, rfl, ?_⟩
    refine c31 (hb0.ext (hE56'.trans' hE60)) lb (fun h => absurd ⟨hv.2.1, h550, by omega⟩ h) fun _ _ _ w65 hE65 => ?_
    refine ⟨_, _, rfl, rfl, ?_⟩
    refine condK_bne (fun h => absurd rfl h) fun _ => ?_
    refine condK_bne (fun h => absurd rfl h) fun _ => ?_
    refine condK_bne (fun h => absurd (hfst.counts hv.2.2 h550 hlt) h) fun _ => ?_
    rw [J7_2, wrap_id (by omega) (by omega)]
    exact ⟨⟨hE56.trans' (hE60.trans' hE65), by omega, by omega⟩, by simp only []; omega⟩
end Go.Proofs.Ytnkpjlhbojjneaa.VC

/- What a list of pairs reads as. -/
namespace Go.Proofs.Ytnkpjlhbojjneaa.VC
open Go Go.RowKit Go.ChangeShapes Go.WideShapes Go.Deep Go.Joins

section
variable {H : Type} {enc : TypeId × Value → H} {w : World}
theorem pcells_range {f g : Nat → Int} : ∀ (n : Nat), (pcells ((List.range n).map fun i => (f i, g i))).length = 2 * n := fun n => by
  have : ∀ l : List IP, (pcells l).length = 2 * l.length := fun l => by
    induction l with
    | nil => rfl
    | cons p l ih => simp only [pcells, List.length_cons, ih]; omega
  rw [this]; simp
theorem pcells_at {l : List IP} {j : Nat} {v : Value} (h : (pcells l)[j]? = some v) : ∃ p, l[j / 2]? = some p ∧ ((j % 2 = 0 ∧ v = .int .i64 p.1) ∨ (j % 2 = 1 ∧ v = .int .i64 p.2)) := by
  induction l generalizing j with
  | nil => simp [pcells] at h
  | cons p l ih =>
    match j, h with
    | 0, h => simp [pcells] at h; exact ⟨p, rfl, .inl ⟨rfl, h.symm⟩⟩
    | 1, h => simp [pcells] at h; exact ⟨p, rfl, .inr ⟨rfl, h.symm⟩⟩
    | j + 2, h =>
      simp [pcells] at h
      obtain ⟨q, hq, hv⟩ := ih h
      refine ⟨q, ?_, ?_⟩
      · rw [show (j + 2) / 2 = j / 2 + 1 by omega]; simpa using hq
      · rw [show (j + 2) % 2 = j % 2 by omega]; exact hv
set_option maxRecDepth 100000 in
theorem rd_pairs {r : Reach} {b : Nat} {v : Value} {d : DataW H} {p : List MemPlace} (hv : Value.okWide Try.prog w r b 39 v) (h : DataW.Trod enc Try.prog w 0 (fun _ => true) true 39 v d p) (hb : Rows.uptoBulk d ≤ 1048576) :
    ∃ ps, SlP w v ps ∧ ps.length ≤ 1048576 := by
  obtain ⟨n, hn⟩ := trod_slice_n Try.underlying39 hv h
  rcases open_slice_pairs Try.underlying39 Try.underlying50 cof50 rfl rfl cof3 cof3 hn with ⟨hcs, hd⟩ | ⟨a, len, cap, m, n2, V0, V1, D0, D1, P0, P1, hcs, _, hl, _, hmm, hd, hcell⟩
  · simp only [List.cons.injEq, and_true] at hcs; subst hcs
    exact ⟨[], ⟨none, 0, rfl, Nat.zero_le _, fun h => absurd rfl h⟩, Nat.zero_le _⟩
  · simp only [List.cons.injEq, and_true] at hcs; subst hcs
    simp only [if_true] at hmm; subst hmm
    have num : ∀ i, i < len → ∃ q : IP, V0 i = .int .i64 q.1 ∧ V1 i = .int .i64 q.2 := fun i hi => by
      obtain ⟨_, _, h0, h1⟩ := hcell i (by omega)
      obtain ⟨x, e0, _, _⟩ := DataW.trod_int Try.underlying3 h0
      obtain ⟨y, e1, _, _⟩ := DataW.trod_int Try.underlying3 h1
      simp only [List.cons.injEq, and_true] at e0 e1
      exact ⟨(x, y), e0, e1⟩
    obtain ⟨q, hq⟩ := choose_lt num
    refine ⟨(List.range len).map q, ⟨some a, m, by simp, by simpa using hl, fun _ => ⟨a, rfl, fun j u hj => ?_⟩⟩, ?_⟩
    · obtain ⟨pp, hpp, hv⟩ := pcells_at hj
      obtain ⟨h1, rfl⟩ := range_get hpp
      obtain ⟨c0, c1, _, _⟩ := hcell (j / 2) (by omega)
      obtain ⟨e0, e1⟩ := hq (j / 2) h1
      rcases hv with ⟨hj2, rfl⟩ | ⟨hj2, rfl⟩
      · have e : w.cell? (a.add j) = w.cell? (a.add (j / 2 * 2)) := by congr 2; omega
        rw [e, c0, e0]
      · have e : w.cell? (a.add j) = w.cell? (a.add (j / 2 * 2 + 1)) := by congr 2; omega
        rw [e, c1, e1]
    · simp only [Prod.mk.injEq] at hd
      have := bulk_slice (H := H) ((List.range len).map fun i => .agg [D0 i, D1 i]) ((List.range (m - len)).map fun j => .agg [D0 (len + j), D1 (len + j)])
      rw [← hd.1] at this
      simp at this ⊢
      exact Nat.le_trans this hb
end
end Go.Proofs.Ytnkpjlhbojjneaa.VC

/- What a list of pairs reads as where nothing is asked of it but that it has room. -/
namespace Go.Proofs.Ytnkpjlhbojjneaa.VC
open Go Go.RowKit Go.ChangeShapes Go.WideShapes Go.Deep Go.Joins

section
variable {H : Type} {enc : TypeId × Value → H} {w : World}
set_option maxRecDepth 100000 in
theorem rz_pairs {r : Reach} {b : Nat} {v : Value} {d : DataW H} {p : List MemPlace} (hv : Value.okWide Try.prog w r b 39 v) (h : DataW.Trod enc Try.prog w 0 (fun _ => true) true 39 v d p) (hz : Sz 39 d) :
    ∃ ps, SlP w v ps ∧ ps.length ≤ 8796093021952 := by
  obtain ⟨n, hn⟩ := trod_slice_n Try.underlying39 hv h
  rcases open_slice_pairs Try.underlying39 Try.underlying50 cof50 rfl rfl cof3 cof3 hn with ⟨hcs, hd⟩ | ⟨a, len, cap, m, n2, V0, V1, D0, D1, P0, P1, hcs, _, hl, _, hmm, hd, hcell⟩
  · simp only [List.cons.injEq, and_true] at hcs; subst hcs
    exact ⟨[], ⟨none, 0, rfl, Nat.zero_le _, fun h => absurd rfl h⟩, Nat.zero_le _⟩
  · simp only [List.cons.injEq, and_true] at hcs; subst hcs
    simp only [if_true] at hmm; subst hmm
    have num : ∀ i, i < len → ∃ q : IP, V0 i = .int .i64 q.1 ∧ V1 i = .int .i64 q.2 := fun i hi => by
      obtain ⟨_, _, h0, h1⟩ := hcell i (by omega)
      obtain ⟨x, e0, _, _⟩ := DataW.trod_int Try.underlying3 h0
      obtain ⟨y, e1, _, _⟩ := DataW.trod_int Try.underlying3 h1
      simp only [List.cons.injEq, and_true] at e0 e1
      exact ⟨(x, y), e0, e1⟩
    obtain ⟨q, hq⟩ := choose_lt num
    refine ⟨(List.range len).map q, ⟨some a, m, by simp, by simpa using hl, fun _ => ⟨a, rfl, fun j u hj => ?_⟩⟩, ?_⟩
    · obtain ⟨pp, hpp, hv⟩ := pcells_at hj
      obtain ⟨h1, rfl⟩ := range_get hpp
      obtain ⟨c0, c1, _, _⟩ := hcell (j / 2) (by omega)
      obtain ⟨e0, e1⟩ := hq (j / 2) h1
      rcases hv with ⟨hj2, rfl⟩ | ⟨hj2, rfl⟩
      · have e : w.cell? (a.add j) = w.cell? (a.add (j / 2 * 2)) := by congr 2; omega
        rw [e, c0, e0]
      · have e : w.cell? (a.add j) = w.cell? (a.add (j / 2 * 2 + 1)) := by congr 2; omega
        rw [e, c1, e1]
    · simp only [Prod.mk.injEq] at hd
      rw [hd.1] at hz
      have := (sz_slice Try.underlying39 hz).1
      rw [by50] at this
      simp only [List.length_map, List.length_range] at this ⊢
      omega
end
end Go.Proofs.Ytnkpjlhbojjneaa.VC
