/- How many words are accepted. -/
import Derived.Test.YtnkpjlhbojjneaaGb
import Derived.Test.YtnkpjlhbojjneaaGn
/- The conditions of functions, printed by wip/tools/gen.py. -/
namespace Go.Proofs.Ytnkpjlhbojjneaa.VC
open Go Go.RowKit

def J12_1 (w5 : World) (R : Value → List (List Value) → World → Prop) : Prop := CallsI Try.prog 15 [] w5 [] fun (v7 : Value) (l8 : List (List Value)) (w9 : World) => ∃ (t10 : Bool), v7 = Value.bool
    t10 ∧ l8 = [] ∧ R (Value.bool t10) [] w9

def J12_2 (I97 : Int → Lp) (x98 : Int) (w131 : World) (n100 : Nat) : Prop := (I97 (IntKind.i64.wrap (x98 + 1))).1 w131 ∧ (I97 (IntKind.i64.wrap (x98 + 1))).m w131 < n100

def J12_6 (w123 : World) (a125 : Addr) (x61 : Int) (x62 : Int) (A63 : Option Addr) (n64 : Nat) (n65 : Nat) (A66 : Option Addr) (n67 : Nat) (n68 : Nat) (t112 : Bool) (R : Value → List (List Value) →
    World → Prop) (I97 : Int → Lp) (x98 : Int) (n100 : Nat) (t116 : Bool) : Prop := ∃ (A126 : Option Addr), ∃ (n127 : Nat), ∃ (n128 : Nat), w123.cell? a125 = some (Value.slice A126 n127 n128) ∧ CallsI
    Try.prog 20 [Value.agg (Array.mk [Value.int IntKind.i64 x61, Value.int IntKind.i64 x62, Value.slice A63 n64 n65, Value.slice A66 n67 n68]), Value.slice A126 n127 n128] w123 [] fun (v129 : Value) (l130
    : List (List Value)) (w131 : World) => ∃ (t132 : Bool), v129 = Value.bool t132 ∧ l130 = [] ∧ condK t112 (condK (!t132 == true) (R (Value.bool false) [] w131) (J12_2 I97 x98 w131 n100)) (condK (!t132
    == t116) (R (Value.bool false) [] w131) (J12_2 I97 x98 w131 n100))

set_option maxRecDepth 100000 in
theorem s12 (l s : Int) (A : Option Addr) (n c : Nat) (B : Option Addr) (m d : Nat) (lb sb : Int) (Ab : Option Addr) (nb cb : Nat) (Bb : Option Addr) (mb db : Nat) (q : Int) (D : Option Addr) (k e : Nat) (w : World) (R : Value → List (List Value) → World → Prop) (h :
    ∀ (_n1 _n2 : Nat), CallsI Try.prog 21 [Value.agg (Array.mk [Value.int IntKind.i64 l, Value.int IntKind.i64 s, Value.slice A n c, Value.slice B m d])] w [] fun (v3 : Value) (l4 : List (List Value)) (w5
        : World) => ∃ (t6 : Bool), v3 = Value.bool t6 ∧ l4 = [] ∧ condK (!t6) (J12_1 w5 R) (CallsI Try.prog 21 [Value.agg (Array.mk [Value.int IntKind.i64 lb, Value.int IntKind.i64 sb, Value.slice Ab nb cb,
        Value.slice Bb mb db])] w5 [] fun (v11 : Value) (l12 : List (List Value)) (w13 : World) => ∃ (t14 : Bool), v11 = Value.bool t14 ∧ l12 = [] ∧ condK (!t14) (J12_1 w13 R) (CallsI Try.prog 38 [Value.agg
        (Array.mk [Value.int IntKind.i64 l, Value.int IntKind.i64 s, Value.slice A n c, Value.slice B m d]), Value.int IntKind.i64 q] w13 [] fun (v19 : Value) (l20 : List (List Value)) (w21 : World) => ∃ (x22
        : Int), ∃ (x23 : Int), v19 = Value.tuple (Array.mk [Value.int IntKind.u64 x22, Value.int IntKind.i64 x23]) ∧ l20 = [] ∧ CallsI Try.prog 19 [Value.agg (Array.mk [Value.int IntKind.i64 l, Value.int
        IntKind.i64 s, Value.slice A n c, Value.slice B m d])] w21 [] fun (v24 : Value) (l25 : List (List Value)) (w26 : World) => ∃ (x27 : Int), ∃ (x28 : Int), ∃ (A29 : Option Addr), ∃ (n30 : Nat), ∃ (n31 :
        Nat), ∃ (A32 : Option Addr), ∃ (n33 : Nat), ∃ (n34 : Nat), v24 = Value.agg (Array.mk [Value.int IntKind.i64 x27, Value.int IntKind.i64 x28, Value.slice A29 n30 n31, Value.slice A32 n33 n34]) ∧ l25 =
        [] ∧ CallsI Try.prog 31 [Value.agg (Array.mk [Value.int IntKind.i64 x27, Value.int IntKind.i64 x28, Value.slice A29 n30 n31, Value.slice A32 n33 n34]), Value.int IntKind.i64 q] w26 [] fun (v35 :
        Value) (l36 : List (List Value)) (w37 : World) => ∃ (x38 : Int), ∃ (x39 : Int), v35 = Value.tuple (Array.mk [Value.int IntKind.u64 x38, Value.int IntKind.i64 x39]) ∧ l36 = [] ∧ condK (x23 != x39) (R
        (Value.bool false) [] w37) (condK (x38 != x22) (R (Value.bool false) [] w37) (CallsI Try.prog 31 [Value.agg (Array.mk [Value.int IntKind.i64 lb, Value.int IntKind.i64 sb, Value.slice Ab nb cb,
        Value.slice Bb mb db]), Value.int IntKind.i64 q] w37 [] fun (v40 : Value) (l41 : List (List Value)) (w42 : World) => ∃ (x43 : Int), ∃ (x44 : Int), v40 = Value.tuple (Array.mk [Value.int IntKind.u64
        x43, Value.int IntKind.i64 x44]) ∧ l41 = [] ∧ CallsI Try.prog 37 [Value.agg (Array.mk [Value.int IntKind.i64 l, Value.int IntKind.i64 s, Value.slice A n c, Value.slice B m d]), Value.agg (Array.mk
        [Value.int IntKind.i64 lb, Value.int IntKind.i64 sb, Value.slice Ab nb cb, Value.slice Bb mb db])] w42 [] fun (v45 : Value) (l46 : List (List Value)) (w47 : World) => ∃ (x48 : Int), ∃ (x49 : Int), ∃
        (A50 : Option Addr), ∃ (n51 : Nat), ∃ (n52 : Nat), ∃ (A53 : Option Addr), ∃ (n54 : Nat), ∃ (n55 : Nat), ∃ (x56 : Int), v45 = Value.tuple (Array.mk [Value.agg (Array.mk [Value.int IntKind.i64 x48,
        Value.int IntKind.i64 x49, Value.slice A50 n51 n52, Value.slice A53 n54 n55]), Value.int IntKind.i64 x56]) ∧ l46 = [] ∧ ∀ (_n57 : Nat), CallsI Try.prog 34 [Value.agg (Array.mk [Value.int IntKind.i64
        l, Value.int IntKind.i64 s, Value.slice A n c, Value.slice B m d]), Value.agg (Array.mk [Value.int IntKind.i64 lb, Value.int IntKind.i64 sb, Value.slice Ab nb cb, Value.slice Bb mb db])] w47 [] fun
        (v58 : Value) (l59 : List (List Value)) (w60 : World) => ∃ (x61 : Int), ∃ (x62 : Int), ∃ (A63 : Option Addr), ∃ (n64 : Nat), ∃ (n65 : Nat), ∃ (A66 : Option Addr), ∃ (n67 : Nat), ∃ (n68 : Nat), ∃ (x69
        : Int), v58 = Value.tuple (Array.mk [Value.agg (Array.mk [Value.int IntKind.i64 x61, Value.int IntKind.i64 x62, Value.slice A63 n64 n65, Value.slice A66 n67 n68]), Value.int IntKind.i64 x69]) ∧ l59 =
        [] ∧ ∀ (_n70 : Nat), condK (x39 != 0) (J12_1 w60 R) (condK (x44 != 0) (J12_1 w60 R) (condK (x56 != 0) (J12_1 w60 R) (condK (x69 != 0) (J12_1 w60 R) (CallsI Try.prog 31 [Value.agg (Array.mk [Value.int
        IntKind.i64 x48, Value.int IntKind.i64 x49, Value.slice A50 n51 n52, Value.slice A53 n54 n55]), Value.int IntKind.i64 q] w60 [] fun (v87 : Value) (l88 : List (List Value)) (w89 : World) => ∃ (x90 :
        Int), ∃ (x91 : Int), v87 = Value.tuple (Array.mk [Value.int IntKind.u64 x90, Value.int IntKind.i64 x91]) ∧ l88 = [] ∧ CallsI Try.prog 31 [Value.agg (Array.mk [Value.int IntKind.i64 x61, Value.int
        IntKind.i64 x62, Value.slice A63 n64 n65, Value.slice A66 n67 n68]), Value.int IntKind.i64 q] w89 [] fun (v92 : Value) (l93 : List (List Value)) (w94 : World) => ∃ (x95 : Int), ∃ (x96 : Int), v92 =
        Value.tuple (Array.mk [Value.int IntKind.u64 x95, Value.int IntKind.i64 x96]) ∧ l93 = [] ∧ condK (x91 != 0) (R (Value.bool false) [] w94) (condK (x96 != 0) (R (Value.bool false) [] w94) (condK
        (IntKind.u64.wrap (x90 + x95) != IntKind.u64.wrap (x38 + x43)) (R (Value.bool false) [] w94) (∃ (I97 : Int → Lp), (I97 0).1 w94 ∧ ∀ (x98 : Int) (w99 : World), (I97 x98).1 w99 → ∀ (n100 : Nat), (I97
        x98).m w99 = n100 → condK (decide (x98 < (↑k : Int))) (IxV D k 1 x98 fun (a101 : Addr) => ∃ (A102 : Option Addr), ∃ (n103 : Nat), ∃ (n104 : Nat), w99.cell? a101 = some (Value.slice A102 n103 n104) ∧
        IxV D k 1 x98 fun (a105 : Addr) => ∃ (A106 : Option Addr), ∃ (n107 : Nat), ∃ (n108 : Nat), w99.cell? a105 = some (Value.slice A106 n107 n108) ∧ CallsI Try.prog 20 [Value.agg (Array.mk [Value.int
        IntKind.i64 l, Value.int IntKind.i64 s, Value.slice A n c, Value.slice B m d]), Value.slice A102 n103 n104] w99 [] fun (v109 : Value) (l110 : List (List Value)) (w111 : World) => ∃ (t112 : Bool), v109
        = Value.bool t112 ∧ l110 = [] ∧ w111.cell? a105 = some (Value.slice A106 n107 n108) ∧ CallsI Try.prog 20 [Value.agg (Array.mk [Value.int IntKind.i64 lb, Value.int IntKind.i64 sb, Value.slice Ab nb cb,
        Value.slice Bb mb db]), Value.slice A106 n107 n108] w111 [] fun (v113 : Value) (l114 : List (List Value)) (w115 : World) => ∃ (t116 : Bool), v113 = Value.bool t116 ∧ l114 = [] ∧ IxV D k 1 x98 fun
        (a117 : Addr) => ∃ (A118 : Option Addr), ∃ (n119 : Nat), ∃ (n120 : Nat), w115.cell? a117 = some (Value.slice A118 n119 n120) ∧ CallsI Try.prog 20 [Value.agg (Array.mk [Value.int IntKind.i64 x48,
        Value.int IntKind.i64 x49, Value.slice A50 n51 n52, Value.slice A53 n54 n55]), Value.slice A118 n119 n120] w115 [] fun (v121 : Value) (l122 : List (List Value)) (w123 : World) => ∃ (t124 : Bool), v121
        = Value.bool t124 ∧ l122 = [] ∧ condK t112 (condK (!t124 == t116) (R (Value.bool false) [] w123) (IxV D k 1 x98 fun (a125 : Addr) => J12_6 w123 a125 x61 x62 A63 n64 n65 A66 n67 n68 t112 R I97 x98 n100
        t116)) (condK (!t124 == false) (R (Value.bool false) [] w123) (IxV D k 1 x98 fun (a133 : Addr) => J12_6 w123 a133 x61 x62 A63 n64 n65 A66 n67 n68 t112 R I97 x98 n100 t116))) (J12_1 w99 R))))))))))))) :
    CallsI Try.prog 12 [(.agg #[.int .i64 l, .int .i64 s, .slice A n c, .slice B m d]), (.agg #[.int .i64 lb, .int .i64 sb, .slice Ab nb cb, .slice Bb mb db]), (.int .i64 q), (.slice D k e)] w [] R :=
  vcFun_sound (H := ⟨[], [(0, [(23, .int .i64)], [])]⟩) (args := [.v (.agg #[.int .i64 l, .int .i64 s, .slice A n c, .slice B m d]), .v (.agg #[.int .i64 lb, .int .i64 sb, .slice Ab nb cb, .slice Bb mb db]), .v (.int .i64 q), .v (.slice D k e)]) (L := []) goodP Try.func12 (by simp [okp]) (by rw [Try.ntmps12]; simp) (by simp [okp]) (Eq.mp (by kernel_rfl) h)

end Go.Proofs.Ytnkpjlhbojjneaa.VC

/- The conditions of functions, printed by wip/tools/gen.py. -/
namespace Go.Proofs.Ytnkpjlhbojjneaa.VC
open Go Go.RowKit

def J38_1 (I8 : Int → Lp) (x9 : Int) (w15 : World) (n11 : Nat) : Prop := (I8 (IntKind.i64.wrap (x9 + 1))).1 w15 ∧ (I8 (IntKind.i64.wrap (x9 + 1))).m w15 < n11

set_option maxRecDepth 100000 in
theorem s38 (l s : Int) (A : Option Addr) (n c : Nat) (B : Option Addr) (m d : Nat) (q : Int) (w : World) (R : Value → List (List Value) → World → Prop) (h :
    ∀ (_n1 : Nat), CallsI Try.prog 16 [Value.agg (Array.mk [Value.int IntKind.i64 l, Value.int IntKind.i64 s, Value.slice A n c, Value.slice B m d])] w [] fun (v2 : Value) (l3 : List (List Value)) (w4 :
        World) => ∃ (x5 : Int), v2 = Value.int IntKind.i64 x5 ∧ l3 = [] ∧ condK (x5 != 0) (R (Value.tuple (Array.mk [Value.int IntKind.u64 0, Value.int IntKind.i64 1])) [] w4) (condK (decide (q < 0)) (R
        (Value.tuple (Array.mk [Value.int IntKind.u64 0, Value.int IntKind.i64 1])) [] w4) (condK (decide (q > 1000)) (R (Value.tuple (Array.mk [Value.int IntKind.u64 0, Value.int IntKind.i64 1])) [] w4) ((↑n
        : Int) = (↑n : Int) ∧ 0 ≤ (↑n : Int) ∧ (↑n : Int) * (↑8 : Int) ≤ 281474976710656 ∧ (↑n : Int) ≤ 9223372036854775807 ∧ NewK w4 (Obj.cells (Array.mk (List.replicate n (Value.int IntKind.u64 0))) 45) fun
        (n6 : Nat) (w7 : World) => ∃ (I8 : Int → Lp), (I8 0).1 w7 ∧ ∀ (x9 : Int) (w10 : World), (I8 x9).1 w10 → ∀ (n11 : Nat), (I8 x9).m w10 = n11 → condK (decide (x9 < (↑n : Int))) (IxV B m 1 x9 fun (a12 :
        Addr) => ∃ (t13 : Bool), w10.cell? a12 = some (Value.bool t13) ∧ condK t13 (IxV (some (Addr.mk n6 0 none)) n 1 x9 fun (a14 : Addr) => SetK w10 a14 (Value.int IntKind.u64 1) fun (w15 : World) => J38_1
        I8 x9 w15 n11) (J38_1 I8 x9 w10 n11)) (∃ (I16 : Int → Option Addr → Nat → Nat → Lp), (I16 0 (some (Addr.mk n6 0 none)) n n).1 w10 ∧ ∀ (x17 : Int) (A18 : Option Addr) (n19 n20 : Nat) (w21 : World),
        (I16 x17 A18 n19 n20).1 w21 → ∀ (n22 : Nat), (I16 x17 A18 n19 n20).m w21 = n22 → condK (decide (x17 < q)) ((↑n19 : Int) = (↑n19 : Int) ∧ 0 ≤ (↑n19 : Int) ∧ (↑n19 : Int) * (↑8 : Int) ≤ 281474976710656
        ∧ (↑n19 : Int) ≤ 9223372036854775807 ∧ NewK w21 (Obj.cells (Array.mk (List.replicate n19 (Value.int IntKind.u64 0))) 45) fun (n23 : Nat) (w24 : World) => ∃ (I25 : Int → Lp), (I25 0).1 w24 ∧ ∀ (x26 :
        Int) (w27 : World), (I25 x26).1 w27 → ∀ (n28 : Nat), (I25 x26).m w27 = n28 → condK (decide (x26 < (↑n19 : Int))) (∃ (I29 : Int → Lp), (I29 0).1 w27 ∧ ∀ (x30 : Int) (w31 : World), (I29 x30).1 w31 → ∀
        (n32 : Nat), (I29 x30).m w31 = n32 → condK (decide (x30 < l)) (IxV A n 1 x26 fun (a33 : Addr) => ∃ (A34 : Option Addr), ∃ (n35 : Nat), ∃ (n36 : Nat), w31.cell? a33 = some (Value.slice A34 n35 n36) ∧
        IxV A34 n35 1 x30 fun (a37 : Addr) => ∃ (x38 : Int), w31.cell? a37 = some (Value.int IntKind.i64 x38) ∧ condK (decide (x38 ≥ 0)) (IxV (some (Addr.mk n23 0 none)) n19 1 x26 fun (a39 : Addr) => ∃ (x40 :
        Int), w31.cell? a39 = some (Value.int IntKind.u64 x40) ∧ IxV A n 1 x26 fun (a41 : Addr) => ∃ (A42 : Option Addr), ∃ (n43 : Nat), ∃ (n44 : Nat), w31.cell? a41 = some (Value.slice A42 n43 n44) ∧ IxV A42
        n43 1 x30 fun (a45 : Addr) => ∃ (x46 : Int), w31.cell? a45 = some (Value.int IntKind.i64 x46) ∧ IxV A18 n19 1 x46 fun (a47 : Addr) => ∃ (x48 : Int), w31.cell? a47 = some (Value.int IntKind.u64 x48) ∧
        IxV (some (Addr.mk n23 0 none)) n19 1 x26 fun (a49 : Addr) => SetK w31 a49 (Value.int IntKind.u64 (IntKind.u64.wrap (x40 + x48))) fun (w50 : World) => J38_1 I29 x30 w50 n32) (J38_1 I29 x30 w31 n32))
        (J38_1 I25 x26 w31 n28)) ((I16 (IntKind.i64.wrap (x17 + 1)) (some (Addr.mk n23 0 none)) n19 n19).1 w27 ∧ (I16 (IntKind.i64.wrap (x17 + 1)) (some (Addr.mk n23 0 none)) n19 n19).m w27 < n22)) (condK
        (decide (s < 0)) (R (Value.tuple (Array.mk [Value.int IntKind.u64 0, Value.int IntKind.i64 0])) [] w21) (IxV A18 n19 1 s fun (a51 : Addr) => ∃ (x52 : Int), w21.cell? a51 = some (Value.int IntKind.u64
        x52) ∧ R (Value.tuple (Array.mk [Value.int IntKind.u64 x52, Value.int IntKind.i64 0])) [] w21))))))) :
    CallsI Try.prog 38 [(.agg #[.int .i64 l, .int .i64 s, .slice A n c, .slice B m d]), (.int .i64 q)] w [] R :=
  vcFun_sound (H := ⟨[], [(0, [(7, .int .i64)], []), (2, [(8, .int .i64), (6, .slice)], []), (4, [(10, .int .i64)], []), (6, [(11, .int .i64)], [])]⟩) (args := [.v (.agg #[.int .i64 l, .int .i64 s, .slice A n c, .slice B m d]), .v (.int .i64 q)]) (L := []) goodP Try.func38 (by simp [okp]) (by rw [Try.ntmps38]; simp) (by simp [okp]) (Eq.mp (by kernel_rfl) h)

end Go.Proofs.Ytnkpjlhbojjneaa.VC

/- How many words of a length are accepted, by the reference; those of both and of either together. -/
namespace Go.Proofs.Ytnkpjlhbojjneaa.VC
open Go Go.RowKit

set_option maxHeartbeats 4000000 in
theorem c38 {w : World} {m : Mach} {v : Value} {q : Int} {R : Res} (hm : MachAt w m v) (hlim : m.Lim) (bad : ¬ (m.Valid ∧ 0 ≤ q ∧ q ≤ 1000) → R (.tuple (Array.mk [.int .u64 0, .int .i64 1])) [] w)
    (ok : m.Valid → 0 ≤ q → q ≤ 1000 → ∀ w', Ext w w' → R (.tuple (Array.mk [.int .u64 (cnt m q), .int .i64 0])) [] w') : CallsI Try.prog 38 [v, .int .i64 q] w [] R := by
  have hm0 := hm
  obtain ⟨_, _, rfl, ⟨A, c, hs, rfl, hA, hl, hx⟩, ⟨B, d, rfl, hB⟩⟩ := hm
  refine s38 _ _ _ _ _ _ _ _ _ _ _ fun _ => c16 hm0 hlim ⟨_, rfl, rfl, ?_⟩
  refine condK_bne (fun h => bad fun e => h (Mach.code_ok.2 e.1)) fun h => ?_
  refine condK_dec (fun h => bad fun e => by omega) fun hq0 => condK_dec (fun h => bad fun e => by omega) fun hq1 => ?_
  have hv := Mach.code_ok.1 h
  have ok := ok hv (by omega) (by omega)
  have hL := hv.letters
  have hn := hv.next
  have hsh := hv.shaped
  have hfin := hsh.fin
  have hst := hsh.start_range
  have h0L := hsh.letters
  refine ⟨rfl, by omega, by omega, by omega, ?_⟩
  refine (Fam.empty w).mkRow 2 fun n6 F w7 ho hF hT => ?_
  rw [List.length_replicate] at hT
  have hT : GSl F 2 (some ⟨n6, 0, none⟩) m.next.length m.next.length (us (List.replicate m.next.length 0)) := by rw [us_rep]; exact hT
  refine ⟨fun x9 => ⟨fun w10 => ∃ F T, Fam w w10 F ∧ GSl F 2 (some ⟨n6, 0, none⟩) m.next.length m.next.length (us T) ∧ T.length = m.next.length ∧ (∀ s : Int, 0 ≤ s → s < m.next.length → gi T s = if s < x9 ∧ m.ends s = true then 1 else 0) ∧ 0 ≤ x9 ∧ x9 ≤ m.next.length, fun _ => (m.next.length - x9).toNat⟩,
    ⟨F, _, hF, hT, by simp, fun s h0 h1 => by rw [gi_rep, if_neg (fun h => by omega)], by omega, by omega⟩, ?_⟩
  clear hF hT ho
  rintro x9 w10 ⟨F, T, hF, hT, hTl, hTv, h90, h91⟩ n11 rfl
  refine condK_dec (fun hlt => ?_) fun hge => ?_
  · refine rd_end hF.base hB h90 (by omega) (K := fun t13 => condK t13 _ _) ?_
    refine condK_of (fun he => ?_) fun he => ?_
    · refine hT.set_u hF 1 (by decide) h90 (by omega) fun F2 w2 ho2 hF2 hT2 => ?_
      rw [J38_1, wrap_id (by omega) (by omega)]
      refine ⟨⟨F2, _, hF2, hT2, by simp [hTl], fun s h0 h1 => ?_, by omega, by omega⟩, by simp only []; omega⟩
      rw [gi_set h90 (by omega) h0]
      by_cases e : s = x9
      · subst e; rw [if_pos rfl, if_pos ⟨by omega, he⟩]
      · rw [if_neg e, hTv s h0 h1]
        by_cases h : s < x9 ∧ m.ends s = true
        · rw [if_pos h, if_pos ⟨by omega, h.2⟩]
        · rw [if_neg h, if_neg (fun h' => h ⟨by omega, h'.2⟩)]
    · rw [J38_1, wrap_id (by omega) (by omega)]
      refine ⟨⟨F, T, hF, hT, hTl, fun s h0 h1 => ?_, by omega, by omega⟩, by simp only []; omega⟩
      rw [hTv s h0 h1]
      by_cases h : s < x9 ∧ m.ends s = true
      · rw [if_pos h, if_pos ⟨by omega, h.2⟩]
      · rw [if_neg h, if_neg (fun h' => h ⟨by
          by_cases e : s = x9
          · subst e; rw [h'.2] at he; cases he
          · omega, h'.2⟩)]
  · have hTv0 : ∀ s : Int, 0 ≤ s → s < m.next.length → gi T s = cw m 0 s := fun s h0 h1 => by
      rw [hTv s h0 h1]; simp only [cw]
      by_cases h : m.ends s = true
      · rw [if_pos h, if_pos ⟨by omega, h⟩]
      · rw [if_neg h, if_neg (fun h' => h h'.2)]
    refine ⟨fun x17 A18 n19 n20 => ⟨fun w21 => ∃ F T, Fam w w21 F ∧ GSl F 2 A18 n19 n20 (us T) ∧ T.length = m.next.length ∧ (∀ s : Int, 0 ≤ s → s < m.next.length → gi T s = cw m x17.toNat s) ∧ 0 ≤ x17 ∧ x17 ≤ q, fun _ => (q - x17).toNat⟩,
      ⟨F, T, hF, hT, hTl, hTv0, by omega, by omega⟩, ?_⟩
    clear hF hT hTl hTv0 hTv
    rintro x17 A18 n19 n20 w21 ⟨F, T, hF, hT, hTl, hTv, h170, h171⟩ n22 rfl
    have n19' : n19 = m.next.length := by rw [hT.len, us_len, hTl]
    subst n19'
    refine condK_dec (fun hlt => ?_) fun hge2 => ?_
    · refine ⟨rfl, by omega, by omega, by omega, ?_⟩
      refine hF.mkRow 3 fun n23 F1 w24 ho1 hF1 hN1 => ?_
      rw [List.length_replicate] at hN1
      have hN1 : GSl F1 3 (some ⟨n23, 0, none⟩) m.next.length m.next.length (us (List.replicate m.next.length 0)) := by rw [us_rep]; exact hN1
      have hT1 := hT.keep ho1 (by decide)
      refine ⟨fun x26 => ⟨fun w27 => ∃ F N, Fam w w27 F ∧ GSl F 2 A18 m.next.length n20 (us T) ∧ GSl F 3 (some ⟨n23, 0, none⟩) m.next.length m.next.length (us N) ∧ N.length = m.next.length ∧ (∀ s : Int, 0 ≤ s → s < m.next.length → gi N s = if s < x26 then cw m (x17.toNat + 1) s else 0) ∧ 0 ≤ x26 ∧ x26 ≤ m.next.length, fun _ => (m.next.length - x26).toNat⟩,
        ⟨F1, _, hF1, hT1, hN1, by simp, fun s h0 h1 => by rw [gi_rep, if_neg (by omega)], by omega, by omega⟩, ?_⟩
      clear hF hT hF1 hN1 ho1 hT1
      rintro x26 w27 ⟨F, N, hF, hT, hN, hNl, hNv, h260, h261⟩ n28 rfl
      refine condK_dec (fun hlt2 => ?_) fun hge3 => ?_
      · refine ⟨fun x30 => ⟨fun w31 => ∃ F N, Fam w w31 F ∧ GSl F 2 A18 m.next.length n20 (us T) ∧ GSl F 3 (some ⟨n23, 0, none⟩) m.next.length m.next.length (us N) ∧ N.length = m.next.length ∧ (∀ s : Int, 0 ≤ s → s < m.next.length → gi N s = if s < x26 then cw m (x17.toNat + 1) s else if s = x26 then psum (fun x => cw m x17.toNat (m.step x26 x)) x30.toNat else 0) ∧ 0 ≤ x30 ∧ x30 ≤ m.letters, fun _ => (m.letters - x30).toNat⟩,
          ⟨F, N, hF, hT, hN, hNl, fun s h0 h1 => by
            rw [hNv s h0 h1]
            by_cases h : s < x26
            · rw [if_pos h, if_pos h]
            · rw [if_neg h, if_neg h]; split <;> rfl, by omega, h0L⟩, ?_⟩
        clear hF hT hN hNl hNv F N
        rintro x30 w31 ⟨F, N, hF, hT, hN, hNl, hNv, h300, h301⟩ n32 rfl
        have e1 : (x30 + 1).toNat = x30.toNat + 1 := by omega
        have e2 : ((x30.toNat : Nat) : Int) = x30 := by omega
        refine condK_dec (fun hlt3 => ?_) fun hge4 => ?_
        · have hlet : m.Let x30 := ⟨h300, hlt3⟩
          have hsr := hsh.step_range x26 x30
          refine rd_step hF.base hA hl hx hsh h260 hlt2 hlet (K := fun x38 => condK _ _ _) ?_
          refine condK_dec (fun hpos => ?_) fun hneg => ?_
          · refine hN.get_u hF h260 (by omega) (K := fun x40 => IxV A m.next.length 1 x26 _) ?_
            refine rd_step hF.base hA hl hx hsh h260 hlt2 hlet (K := fun x46 => IxV A18 m.next.length 1 x46 _) ?_
            refine hT.get_u hF (by omega) (by omega) (K := fun x48 => IxV _ _ 1 x26 _) ?_
            refine hN.set_u hF (gi N x26 + gi T (m.step x26 x30)) (by rw [wrapU]; omega) h260 (by omega) fun F2 w2 ho2 hF2 hN2 => ?_
            rw [J38_1, wrap_id (by omega) (by omega)]
            refine ⟨⟨F2, _, hF2, hT.keep ho2 (by decide), hN2, by simp [hNl], fun s h0 h1 => ?_, by omega, by omega⟩, by simp only []; omega⟩
            rw [gi_set h260 (by omega) h0]
            by_cases e : s = x26
            · subst e
              rw [if_pos rfl, if_neg (by omega), if_pos rfl, hNv s h0 h1, if_neg (by omega), if_pos rfl, hTv _ (by omega) hsr.2, e1]
              simp only [psum]; rw [e2]
            · rw [if_neg e, hNv s h0 h1]
              by_cases h : s < x26
              · rw [if_pos h, if_pos h]
              · rw [if_neg h, if_neg h, if_neg e, if_neg e]
          · rw [J38_1, wrap_id (by omega) (by omega)]
            refine ⟨⟨F, N, hF, hT, hN, hNl, fun s h0 h1 => ?_, by omega, by omega⟩, by simp only []; omega⟩
            rw [hNv s h0 h1]
            by_cases h : s < x26
            · rw [if_pos h, if_pos h]
            · rw [if_neg h, if_neg h]
              by_cases e : s = x26
              · rw [if_pos e, if_pos e, e1]; simp only [psum]; rw [e2, cw_neg _ (by omega)]; omega
              · rw [if_neg e, if_neg e]
        · rw [J38_1, wrap_id (by omega) (by omega)]
          have hx30 : x30 = m.letters := by omega
          subst hx30
          refine ⟨⟨F, N, hF, hT, hN, hNl, fun s h0 h1 => ?_, by omega, by omega⟩, by simp only []; omega⟩
          rw [hNv s h0 h1]
          by_cases h : s < x26
          · rw [if_pos h, if_pos (by omega)]
          · rw [if_neg h]
            by_cases e : s = x26
            · subst e; rw [if_pos rfl, if_pos (by omega)]; rfl
            · rw [if_neg e, if_neg (by omega)]
      · rw [wrap_id (by omega) (by omega)]
        refine ⟨⟨_, N, hF.moves (i := 2) (k := 3) (by decide), hN.at (by simp), hNl, fun s h0 h1 => ?_, by omega, by omega⟩, by simp only []; omega⟩
        rw [hNv s h0 h1, if_pos (by omega), show (x17 + 1).toNat = x17.toNat + 1 by omega]
    · have hx17 : x17 = q := by omega
      subst hx17
      have fin := ok w21 hF.base
      refine condK_dec (fun hneg => ?_) fun hpos => ?_
      · have e : cnt m x17 = 0 := by unfold cnt; rw [cw_neg _ hneg]; rfl
        rw [e] at fin; exact fin
      · refine hT.get_u hF (by omega) (by omega) (K := fun x52 => R (.tuple (Array.mk [.int .u64 x52, .int .i64 0])) [] w21) ?_
        rw [hTv _ (by omega) (by omega)]
        exact fin

/-- the words of both and of either are together those of the one and of the other -/
theorem cw_join {a b x y : Mach} (hx : IsJoin true a b x) (hy : IsJoin false a b y) (hl : a.letters = b.letters) : ∀ (n : Nat) (p q s t : Int), (∀ u : List Int, x.acc s u = kf true (a.acc p u) (b.acc q u)) → (∀ u : List Int, y.acc t u = kf false (a.acc p u) (b.acc q u)) → cw x n s + cw y n t = cw a n p + cw b n q := by
  intro n
  induction n with
  | zero =>
    intro p q s t h1 h2
    have e1 := h1 []; have e2 := h2 []
    rw [Mach.acc_nil, Mach.acc_nil, Mach.acc_nil] at e1 e2
    simp only [cw]
    rw [e1, e2]
    cases a.ends p <;> cases b.ends q <;> rfl
  | succ n ih =>
    intro p q s t h1 h2
    simp only [cw]
    rw [hx.letters, hy.letters, ← hl, ← psum_add, ← psum_add]
    exact psum_ext _ fun i hi => ih _ _ _ _ (fun u => h1 (i :: u)) fun u => h2 (i :: u)
theorem cnt_join {a b x y : Mach} {q : Int} (hx : IsJoin true a b x) (hy : IsJoin false a b y) (hl : a.letters = b.letters) : IntKind.u64.wrap (cnt x q + cnt y q) = IntKind.u64.wrap (cnt a q + cnt b q) := by
  have := cw_join hx hy hl q.toNat a.start b.start x.start y.start hx.words hy.words
  rw [wrapU, wrapU]; unfold cnt; omega
end Go.Proofs.Ytnkpjlhbojjneaa.VC

/- The law of counts. -/
namespace Go.Proofs.Ytnkpjlhbojjneaa.VC
open Go Go.RowKit

/-- what Count tells -/
def CRes (m : Mach) (q x y : Int) : Prop := (¬ (m.Valid ∧ 0 ≤ q ∧ q ≤ 1000) ∧ x = 0 ∧ y = 1) ∨ ((m.Valid ∧ 0 ≤ q ∧ q ≤ 1000) ∧ x = cnt m q ∧ y = 0)
theorem CRes.unique {m : Mach} {q x y x' y' : Int} (h : CRes m q x y) (k : CRes m q x' y') : x = x' ∧ y = y' := by
  rcases h with ⟨h1, rfl, rfl⟩ | ⟨h1, rfl, rfl⟩
  · rcases k with ⟨_, rfl, rfl⟩ | ⟨k1, _⟩
    · exact ⟨rfl, rfl⟩
    · exact absurd k1 h1
  · rcases k with ⟨k1, _⟩ | ⟨_, rfl, rfl⟩
    · exact absurd h1 k1
    · exact ⟨rfl, rfl⟩
theorem CRes.ok {m : Mach} {q x y : Int} (h : CRes m q x y) (hy : y = 0) : (m.Valid ∧ 0 ≤ q ∧ q ≤ 1000) ∧ x = cnt m q := by
  rcases h with ⟨_, _, h⟩ | ⟨h1, h2, _⟩
  · omega
  · exact ⟨h1, h2⟩
theorem CRes.of {m : Mach} {q x y : Int} (h : CRes m q x y) (hv : m.Valid ∧ 0 ≤ q ∧ q ≤ 1000) : y = 0 ∧ x = cnt m q := by
  rcases h with ⟨h1, _⟩ | ⟨_, h2, h3⟩
  · exact absurd hv h1
  · exact ⟨h3, h2⟩
theorem c38r {w : World} {m : Mach} {v : Value} {q : Int} {R : Res} (hm : MachAt w m v) (hlim : m.Lim) (hR : ∀ w' x y, Ext w w' → CRes m q x y → R (.tuple (Array.mk [.int .u64 x, .int .i64 y])) [] w') : CallsI Try.prog 38 [v, .int .i64 q] w [] R :=
  c38 hm hlim (fun h => hR w _ _ Ext.rfl' (.inl ⟨h, rfl, rfl⟩)) fun h1 h2 h3 w' hE => hR w' _ _ hE (.inr ⟨⟨h1, h2, h3⟩, rfl, rfl⟩)
theorem c31r {w : World} {m : Mach} {v : Value} {q : Int} {R : Res} (hm : MachAt w m v) (hlim : m.Lim) (hR : ∀ w' x y, Ext w w' → CRes m q x y → R (.tuple (Array.mk [.int .u64 x, .int .i64 y])) [] w') : CallsI Try.prog 31 [v, .int .i64 q] w [] R :=
  c31 hm hlim (fun h => hR w _ _ Ext.rfl' (.inl ⟨h, rfl, rfl⟩)) fun h1 h2 h3 w' hE => hR w' _ _ hE (.inr ⟨⟨h1, h2, h3⟩, rfl, rfl⟩)
theorem JRes.ok {st : Bool} {a b mm : Mach} {x : Int} (h : JRes st a b mm x) (hx : x = 0) : fitc a b = 0 ∧ IsJoin st a b mm := by
  rcases h with ⟨h1, h2, _⟩ | ⟨h1, _, h3⟩
  · omega
  · exact ⟨h1, h3⟩
theorem IsJoin.valid {st : Bool} {a b mm : Mach} (h : IsJoin st a b mm) (ha : a.Valid) (hn : mm.next.length ≤ 4000) : mm.Valid := ⟨h.canon.shaped, by rw [h.letters]; exact ha.letters, hn⟩

set_option maxHeartbeats 4000000 in
theorem c12 {w : World} {a b : Mach} {v u ws : Value} {q : Int} {us : List (List Int)} {R : Res} (ha : MachAt w a v) (la : a.Lim) (hb : MachAt w b u) (lb : b.Lim)
    (hu : SlII w ws us) (hul : us.length ≤ 5864062014634) (hur : ∀ x ∈ us, x.length ≤ 17592186043904) (hR : ∀ w', Ext w w' → R (.bool true) [] w') : CallsI Try.prog 12 [v, u, .int .i64 q, ws] w [] R := by
  have ha0 := ha; have hb0 := hb
  obtain ⟨A, n, c, B, k, d, rfl⟩ := ha.form
  obtain ⟨A', n', c', B', k', d', rfl⟩ := hb.form
  obtain ⟨D, dc, hs, rfl, hD, hDl, hDx⟩ := hu
  have awake : ∀ w', Ext w w' → J12_1 w' R := fun w' hE => c15 fun w2 hE2 => ⟨_, rfl, rfl, hR w2 (hE.trans' hE2)⟩
  refine s12 _ _ _ _ _ _ _ _ _ _ _ _ _ _ _ _ _ _ _ _ _ _ fun _ _ => c21 ha0 (fun hsa => ⟨_, rfl, rfl, ?_⟩) fun _ => ⟨_, rfl, rfl, awake w Ext.rfl'⟩
  refine condK_of (fun h => by cases h) fun _ => ?_
  refine c21 hb0 (fun hsb => ⟨_, rfl, rfl, ?_⟩) fun _ => ⟨_, rfl, rfl, awake w Ext.rfl'⟩
  refine condK_of (fun h => by cases h) fun _ => ?_
  have few := few30 hsa hsb
  refine c38r ha0 la fun w21 x22 x23 hE21 hc1 => ⟨_, _, rfl, rfl, ?_⟩
  refine c19 (ha0.ext hE21) la fun w26 v24 hcp => ?_
  have hat := hcp.at_
  obtain ⟨A29, n30, n31, A32, n33, n34, rfl⟩ := hat.form
  refine ⟨_, _, _, _, _, _, _, _, rfl, rfl, ?_⟩
  refine c31r hat la fun w37 x38 x39 hE37 hc2 => ⟨_, _, rfl, rfl, ?_⟩
  obtain ⟨rfl, rfl⟩ := hc1.unique hc2
  refine condK_bne (fun h => absurd rfl h) fun _ => condK_bne (fun h => absurd rfl h) fun _ => ?_
  have e37 : Ext w w37 := (hE21.trans' hcp.below).trans' hE37
  refine c31r (hb0.ext e37) lb fun w42 x43 x44 hE42 hc3 => ⟨_, _, rfl, rfl, ?_⟩
  have e42 := e37.trans' hE42
  refine c37r (ha0.ext e42) (hb0.ext e42) la lb few fun w47 xm x56 A50 n51 n52 A53 n54 n55 hE47 hxm hjx lx sx => ⟨_, _, _, _, _, _, _, _, _, rfl, rfl, fun _ => ?_⟩
  have e47 := e42.trans' hE47
  refine c34r (ha0.ext e47) (hb0.ext e47) la lb few fun w60 ym x69 A63 n64 n65 A66 n67 n68 hE60 hym hjy ly sy => ⟨_, _, _, _, _, _, _, _, _, rfl, rfl, fun _ => ?_⟩
  have e60 := e47.trans' hE60
  have hxm := hxm.ext hE60
  refine condK_bne (fun _ => awake w60 e60) fun h39 => condK_bne (fun _ => awake w60 e60) fun h44 => condK_bne (fun _ => awake w60 e60) fun h56 => condK_bne (fun _ => awake w60 e60) fun h69 => ?_
  obtain ⟨⟨hva, hq⟩, e38⟩ := hc2.ok h39
  obtain ⟨⟨hvb, _⟩, e43⟩ := hc3.ok h44
  obtain ⟨hfit, hjx⟩ := hjx.ok h56
  obtain ⟨_, hjy⟩ := hjy.ok h69
  have hvx := hjx.valid hva sx
  have hvy := hjy.valid hva sy
  refine c31r hxm lx fun w89 x90 x91 hE89 hc4 => ⟨_, _, rfl, rfl, ?_⟩
  refine c31r (hym.ext hE89) ly fun w94 x95 x96 hE94 hc5 => ⟨_, _, rfl, rfl, ?_⟩
  obtain ⟨e91, e90⟩ := hc4.of ⟨hvx, hq⟩
  obtain ⟨e96, e95⟩ := hc5.of ⟨hvy, hq⟩
  refine condK_bne (fun h => absurd e91 h) fun _ => condK_bne (fun h => absurd e96 h) fun _ => ?_
  refine condK_bne (fun h => absurd ?_ h) fun _ => ?_
  · rw [e90, e95, e38, e43]; exact cnt_join hjx hjy (fitc_ok.1 hfit).2.2
  have hE94' := hE89.trans' hE94
  have hE : Ext w w94 := e60.trans' hE94'
  refine ⟨fun x98 => ⟨fun w99 => w99 = w94 ∧ 0 ≤ x98 ∧ x98 ≤ us.length, fun _ => (us.length - x98).toNat⟩, ⟨rfl, by omega, by omega⟩, ?_⟩
  rintro x98 w99 ⟨rfl, h980, h981⟩ n100 rfl
  refine condK_dec (fun hlt => ?_) fun _ => awake w99 hE
  refine rd_row hE hD hDl hDx h980 hlt fun A102 c104 r hr hrow => ?_
  refine ix_row hD hDl hDx h980 hlt fun a105 r2 A106 c108 hr2 hc105 hrow2 => ⟨A106, _, c108, hE.cell hc105, ?_⟩
  rw [hr] at hr2; injection hr2 with hr2; subst hr2
  have hrl := hur r (List.mem_of_getElem? hr)
  refine c20 (ha0.ext hE) la ⟨_, _, rfl, hE.row hrow⟩ (by omega) ⟨_, rfl, rfl, hE.cell hc105, ?_⟩
  refine c20 (hb0.ext hE) lb ⟨_, _, rfl, hE.row hrow2⟩ (by omega) ⟨_, rfl, rfl, ?_⟩
  have wx := hjx.words r
  have wy := hjy.words r
  rw [← Mach.accepts_valid hva, ← Mach.accepts_valid hvb, ← Mach.accepts_valid hvx] at wx
  rw [← Mach.accepts_valid hva, ← Mach.accepts_valid hvb, ← Mach.accepts_valid hvy] at wy
  refine rd_row hE hD hDl hDx h980 hlt fun A118 c120 r3 hr3 hrow3 => ?_
  rw [hr] at hr3; injection hr3 with hr3; subst hr3
  refine c20 (hxm.ext hE94') lx ⟨_, _, rfl, hE.row hrow3⟩ (by omega) ⟨_, rfl, rfl, ?_⟩
  have step : J12_2 (fun x98 => ⟨fun w99' => w99' = w99 ∧ 0 ≤ x98 ∧ x98 ≤ us.length, fun _ => (us.length - x98).toNat⟩) x98 w99 (us.length - x98).toNat := by
    rw [J12_2, wrap_id (by omega) (by omega)]
    exact ⟨⟨rfl, by omega, by omega⟩, by simp only []; omega⟩
  have j6 : IxV D us.length 1 x98 fun a125 => J12_6 w99 a125 ym.letters ym.start A63 n64 n65 A66 n67 n68 (a.accepts r) R (fun x98 => ⟨fun w99' => w99' = w99 ∧ 0 ≤ x98 ∧ x98 ≤ us.length, fun _ => (us.length - x98).toNat⟩) x98 (us.length - x98).toNat (b.accepts r) := by
    refine ix_row hD hDl hDx h980 hlt fun a125 r2 A126 c128 hr2 hc hrow4 => ?_
    rw [hr] at hr2; injection hr2 with hr2; subst hr2
    rw [J12_6]
    refine ⟨A126, _, c128, hE.cell hc, c20 (hym.ext hE94') ly ⟨_, _, rfl, hE.row hrow4⟩ (by omega) ⟨_, rfl, rfl, ?_⟩⟩
    rw [wy]
    refine condK_of (fun h1 => condK_of (fun h => ?_) fun _ => step) fun h1 => condK_of (fun h => ?_) fun _ => step
    · rw [h1] at h; simp [kf] at h
    · rw [h1] at h; simp [kf] at h
  rw [wx]
  refine condK_of (fun h1 => condK_of (fun h => ?_) fun _ => j6) fun h1 => condK_of (fun h => ?_) fun _ => j6
  · rw [h1] at h; simp [kf] at h
  · rw [h1] at h; simp [kf] at h
end Go.Proofs.Ytnkpjlhbojjneaa.VC
