/- What the functions ask, printed by program, part two. -/
import Derived.Test.YtnkpjlhbojjneaaGb
/- The conditions of functions, printed by wip/tools/gen.py. -/
namespace Go.Proofs.Ytnkpjlhbojjneaa.VC
open Go Go.RowKit

def J85_1 (I4 : Int → Lp) (x5 : Int) (w11 : World) (n7 : Nat) : Prop := (I4 (IntKind.i64.wrap (x5 + 1))).1 w11 ∧ (I4 (IntKind.i64.wrap (x5 + 1))).m w11 < n7

def J85_4 (I20 : Int → Option Addr → Nat → Nat → Option Addr → Nat → Nat → Option Addr → Nat → Nat → Option Addr → Nat → Nat → Option Addr → Nat → Nat → Option Addr → Nat → Nat → Lp) (x21 : Int) (A22
    : Option Addr) (n23 : Nat) (n24 : Nat) (A25 : Option Addr) (n26 : Nat) (n27 : Nat) (A28 : Option Addr) (n29 : Nat) (n30 : Nat) (A31 : Option Addr) (n32 : Nat) (n33 : Nat) (A34 : Option Addr) (n35 :
    Nat) (n36 : Nat) (A37 : Option Addr) (n38 : Nat) (n39 : Nat) (w40 : World) (n41 : Nat) : Prop := (I20 (IntKind.i64.wrap (x21 + 1)) A22 n23 n24 A25 n26 n27 A28 n29 n30 A31 n32 n33 A34 n35 n36 A37 n38
    n39).1 w40 ∧ (I20 (IntKind.i64.wrap (x21 + 1)) A22 n23 n24 A25 n26 n27 A28 n29 n30 A31 n32 n33 A34 n35 n36 A37 n38 n39).m w40 < n41

def J85_22 (A : Option Addr) (n : Nat) (x21 : Int) (w59 : World) (K : Option Addr) (k0 : Nat) (n2 : Nat) (l : Int) (I20 : Int → Option Addr → Nat → Nat → Option Addr → Nat → Nat → Option Addr → Nat →
    Nat → Option Addr → Nat → Nat → Option Addr → Nat → Nat → Option Addr → Nat → Nat → Lp) (A56 : Option Addr) (n57 : Nat) (n58 : Nat) (A48 : Option Addr) (n49 : Nat) (n50 : Nat) (A28 : Option Addr) (n29
    : Nat) (n30 : Nat) (A31 : Option Addr) (n32 : Nat) (n33 : Nat) (A34 : Option Addr) (n35 : Nat) (n36 : Nat) (A37 : Option Addr) (n38 : Nat) (n39 : Nat) (n41 : Nat) : Prop := IxV A n 1 x21 fun (a60 :
    Addr) => ∃ (A61 : Option Addr), ∃ (n62 : Nat), ∃ (n63 : Nat), w59.cell? a60 = some (Value.slice A61 n62 n63) ∧ ∃ (I64 : Int → Lp), (I64 0).1 w59 ∧ ∀ (x65 : Int) (w66 : World), (I64 x65).1 w66 → ∀ (n67
    : Nat), (I64 x65).m w66 = n67 → condK (decide (x65 < (↑n62 : Int))) (IxV A61 n62 1 x65 fun (a68 : Addr) => ∃ (x69 : Int), w66.cell? a68 = some (Value.int IntKind.i64 x69) ∧ condK (decide (x69 ≥ 0))
    (IxV K k0 1 x69 fun (a70 : Addr) => ∃ (t71 : Bool), w66.cell? a70 = some (Value.bool t71) ∧ condK t71 (IxV (some (Addr.mk n2 0 none)) l.toNat 1 x65 fun (a72 : Addr) => ∃ (A73 : Option Addr), ∃ (n74 :
    Nat), ∃ (n75 : Nat), w66.cell? a72 = some (Value.slice A73 n74 n75) ∧ IxV (some (Addr.mk n2 0 none)) l.toNat 1 x65 fun (a76 : Addr) => ∃ (A77 : Option Addr), ∃ (n78 : Nat), ∃ (n79 : Nat), w66.cell?
    a76 = some (Value.slice A77 n78 n79) ∧ IxV A77 n78 1 x69 fun (a80 : Addr) => ∃ (A81 : Option Addr), ∃ (n82 : Nat), ∃ (n83 : Nat), w66.cell? a80 = some (Value.slice A81 n82 n83) ∧ NewK w66 (Obj.cells
    (Array.mk [Value.int IntKind.i64 x21]) 3) fun (n84 : Nat) (w85 : World) => w85.cell? a80 = some (Value.slice A81 n82 n83) ∧ w85.cell? a76 = some (Value.slice A77 n78 n79) ∧ w85.cell? a72 = some
    (Value.slice A73 n74 n75) ∧ AppK 8 1 [Value.int IntKind.i64 0] 3 A81 n82 n83 (some (Addr.mk n84 0 none)) 1 w85 fun (A86 : Option Addr) (n87 n88 : Nat) (w89 : World) => w89.cell? a72 = some
    (Value.slice A73 n74 n75) ∧ IxV A73 n74 1 x69 fun (a90 : Addr) => SetK w89 a90 (Value.slice A86 n87 n88) fun (w91 : World) => J85_1 I64 x65 w91 n67) (J85_1 I64 x65 w66 n67)) (J85_1 I64 x65 w66 n67))
    (J85_4 I20 x21 A56 n57 n58 A48 n49 n50 A28 n29 n30 A31 n32 n33 A34 n35 n36 A37 n38 n39 w66 n41)

def J85_119 (n12 : Nat) (n : Nat) (n14 : Nat) (n16 : Nat) (w17 : World) (k0 : Nat) (K : Option Addr) (B : Option Addr) (m : Nat) (A : Option Addr) (n2 : Nat) (l : Int) (n18 : Nat) (n19 : Nat) (R :
    Value → List (List Value) → World → Prop) : Prop := ∃ (I20 : Int → Option Addr → Nat → Nat → Option Addr → Nat → Nat → Option Addr → Nat → Nat → Option Addr → Nat → Nat → Option Addr → Nat → Nat →
    Option Addr → Nat → Nat → Lp), (I20 0 none 0 0 none 0 0 (some (Addr.mk n12 0 none)) n n (some (Addr.mk n14 0 none)) n n (some (Addr.mk n16 0 none)) 1 1 none 0 0).1 w17 ∧ ∀ (x21 : Int) (A22 : Option
    Addr) (n23 n24 : Nat) (A25 : Option Addr) (n26 n27 : Nat) (A28 : Option Addr) (n29 n30 : Nat) (A31 : Option Addr) (n32 n33 : Nat) (A34 : Option Addr) (n35 n36 : Nat) (A37 : Option Addr) (n38 n39 :
    Nat) (w40 : World), (I20 x21 A22 n23 n24 A25 n26 n27 A28 n29 n30 A31 n32 n33 A34 n35 n36 A37 n38 n39).1 w40 → ∀ (n41 : Nat), (I20 x21 A22 n23 n24 A25 n26 n27 A28 n29 n30 A31 n32 n33 A34 n35 n36 A37
    n38 n39).m w40 = n41 → condK (decide (x21 < (↑k0 : Int))) (IxV K k0 1 x21 fun (a42 : Addr) => ∃ (t43 : Bool), w40.cell? a42 = some (Value.bool t43) ∧ condK (!t43) (J85_4 I20 x21 A22 n23 n24 A25 n26
    n27 A28 n29 n30 A31 n32 n33 A34 n35 n36 A37 n38 n39 w40 n41) (IxV A28 n29 1 x21 fun (a44 : Addr) => SetK w40 a44 (Value.int IntKind.i64 (↑n26 : Int)) fun (w45 : World) => NewK w45 (Obj.cells (Array.mk
    [Value.int IntKind.i64 x21]) 3) fun (n46 : Nat) (w47 : World) => AppK 8 1 [Value.int IntKind.i64 0] 3 A25 n26 n27 (some (Addr.mk n46 0 none)) 1 w47 fun (A48 : Option Addr) (n49 n50 : Nat) (w51 :
    World) => IxV B m 1 x21 fun (a52 : Addr) => ∃ (t53 : Bool), w51.cell? a52 = some (Value.bool t53) ∧ condK t53 (NewK w51 (Obj.cells (Array.mk [Value.int IntKind.i64 x21]) 3) fun (n54 : Nat) (w55 :
    World) => AppK 8 1 [Value.int IntKind.i64 0] 3 A22 n23 n24 (some (Addr.mk n54 0 none)) 1 w55 fun (A56 : Option Addr) (n57 n58 : Nat) (w59 : World) => J85_22 A n x21 w59 K k0 n2 l I20 A56 n57 n58 A48
    n49 n50 A28 n29 n30 A31 n32 n33 A34 n35 n36 A37 n38 n39 n41) (J85_22 A n x21 w51 K k0 n2 l I20 A22 n23 n24 A48 n49 n50 A28 n29 n30 A31 n32 n33 A34 n35 n36 A37 n38 n39 n41))) (NewK w40 (Obj.cells
    (Array.mk [Value.int IntKind.i64 (↑n26 : Int)]) 3) fun (n124 : Nat) (w125 : World) => NewK w125 (Obj.cells (Array.mk [Value.bool true]) 4) fun (n126 : Nat) (w127 : World) => ∀ (n128 : Nat), NewK w127
    (Obj.cells (Array.mk [Value.int IntKind.i64 0]) 3) fun (n129 : Nat) (w130 : World) => ∀ (n131 n132 : Nat), CallsI Try.prog 106 [Value.pointer (some (Addr.mk n18 0 none)), Value.slice A22 n23 n24,
    Value.func (Fn.func 107) (Array.mk []) (Array.mk [Value.pointer (some (Addr.mk n128 0 none)), Value.pointer (some (Addr.mk n132 0 none))])] w130 [(n18, 133, [Value.slice A25 n26 n27, Value.slice A28
    n29 n30, Value.slice A31 n32 n33, Value.slice A34 n35 n36, Value.slice (some (Addr.mk n124 0 none)) 1 1]), (n128, 23, [Value.slice (some (Addr.mk n126 0 none)) 1 1]), (n19, 131, [Value.pointer (some
    (Addr.mk n18 0 none))]), (n132, 89, [Value.func (Fn.func 105) (Array.mk []) (Array.mk [Value.pointer (some (Addr.mk n128 0 none)), Value.pointer (some (Addr.mk n131 0 none))])]), (n131, 26,
    [Value.slice (some (Addr.mk n129 0 none)) 1 1])] fun (v133 : Value) (l134 : List (List Value)) (w135 : World) => v133 = Value.tuple (Array.mk []) ∧ ∃ (A136 : Option Addr), ∃ (n137 : Nat), ∃ (n138 :
    Nat), ∃ (A139 : Option Addr), ∃ (n140 : Nat), ∃ (n141 : Nat), ∃ (A142 : Option Addr), ∃ (n143 : Nat), ∃ (n144 : Nat), ∃ (A145 : Option Addr), ∃ (n146 : Nat), ∃ (n147 : Nat), ∃ (A148 : Option Addr), ∃
    (n149 : Nat), ∃ (n150 : Nat), ∃ (A151 : Option Addr), ∃ (n152 : Nat), ∃ (n153 : Nat), ∃ (A154 : Option Addr), ∃ (n155 : Nat), ∃ (n156 : Nat), l134 = [[Value.slice A136 n137 n138, Value.slice A139 n140
    n141, Value.slice A142 n143 n144, Value.slice A145 n146 n147, Value.slice A148 n149 n150], [Value.slice A151 n152 n153], [Value.pointer (some (Addr.mk n18 0 none))], [Value.func (Fn.func 105)
    (Array.mk []) (Array.mk [Value.pointer (some (Addr.mk n128 0 none)), Value.pointer (some (Addr.mk n131 0 none))])], [Value.slice A154 n155 n156]] ∧ ∃ (I157 : Option Addr → Nat → Nat → Option Addr →
    Nat → Nat → Option Addr → Nat → Nat → Option Addr → Nat → Nat → Option Addr → Nat → Nat → Option Addr → Nat → Nat → Option Addr → Nat → Nat → Lp), (I157 A136 n137 n138 A139 n140 n141 A142 n143 n144
    A145 n146 n147 A148 n149 n150 A151 n152 n153 A154 n155 n156).1 w135 ∧ ∀ (A158 : Option Addr) (n159 n160 : Nat) (A161 : Option Addr) (n162 n163 : Nat) (A164 : Option Addr) (n165 n166 : Nat) (A167 :
    Option Addr) (n168 n169 : Nat) (A170 : Option Addr) (n171 n172 : Nat) (A173 : Option Addr) (n174 n175 : Nat) (A176 : Option Addr) (n177 n178 : Nat) (w179 : World), (I157 A158 n159 n160 A161 n162 n163
    A164 n165 n166 A167 n168 n169 A170 n171 n172 A173 n174 n175 A176 n177 n178).1 w179 → ∀ (n180 : Nat), (I157 A158 n159 n160 A161 n162 n163 A164 n165 n166 A167 n168 n169 A170 n171 n172 A173 n174 n175
    A176 n177 n178).m w179 = n180 → condK (decide ((↑n177 : Int) > 0)) (IxV A176 n177 1 (IntKind.i64.wrap ((↑n177 : Int) - 1)) fun (a181 : Addr) => ∃ (x182 : Int), w179.cell? a181 = some (Value.int
    IntKind.i64 x182) ∧ 0 ≤ IntKind.i64.wrap ((↑n177 : Int) - 1) ∧ IntKind.i64.wrap ((↑n177 : Int) - 1) ≤ (↑n178 : Int) ∧ IxV A173 n174 1 x182 fun (a183 : Addr) => SetK w179 a183 (Value.bool false) fun
    (w184 : World) => IxV A167 n168 1 x182 fun (a185 : Addr) => ∃ (x186 : Int), w184.cell? a185 = some (Value.int IntKind.i64 x186) ∧ IxV A167 n168 1 x182 fun (a187 : Addr) => ∃ (x188 : Int), w184.cell?
    a187 = some (Value.int IntKind.i64 x188) ∧ IxV A170 n171 1 x182 fun (a189 : Addr) => ∃ (x190 : Int), w184.cell? a189 = some (Value.int IntKind.i64 x190) ∧ 0 ≤ IntKind.i64.wrap (x188 + x190) ∧
    IntKind.i64.wrap (x188 + x190) ≤ (↑n160 : Int) ∧ 0 ≤ x186 ∧ x186 ≤ (↑(IntKind.i64.wrap (x188 + x190)).toNat : Int) ∧ CallsI Try.prog 108 [Value.slice (if n160 = x186.toNat then A158 else Option.map
    (fun (x : Addr) => x.add (x186.toNat * i3.size)) A158) ((IntKind.i64.wrap (x188 + x190)).toNat - x186.toNat) (n160 - x186.toNat)] w184 [] fun (v191 : Value) (l192 : List (List Value)) (w193 : World)
    => ∃ (A194 : Option Addr), ∃ (n195 : Nat), ∃ (n196 : Nat), v191 = Value.slice A194 n195 n196 ∧ l192 = [] ∧ ∃ (I197 : Int → Option Addr → Nat → Nat → Option Addr → Nat → Nat → Option Addr → Nat → Nat →
    Option Addr → Nat → Nat → Option Addr → Nat → Nat → Option Addr → Nat → Nat → Option Addr → Nat → Nat → Lp), (I197 0 A158 n159 n160 A161 n162 n163 A164 n165 n166 A167 n168 n169 A170 n171 n172 A173
    n174 n175 (if n178 = 0 then A176 else Option.map (fun (x : Addr) => x.add (0 * i3.size)) A176) ((IntKind.i64.wrap ((↑n177 : Int) - 1)).toNat - 0) n178).1 w193 ∧ ∀ (x198 : Int) (A199 : Option Addr)
    (n200 n201 : Nat) (A202 : Option Addr) (n203 n204 : Nat) (A205 : Option Addr) (n206 n207 : Nat) (A208 : Option Addr) (n209 n210 : Nat) (A211 : Option Addr) (n212 n213 : Nat) (A214 : Option Addr) (n215
    n216 : Nat) (A217 : Option Addr) (n218 n219 : Nat) (w220 : World), (I197 x198 A199 n200 n201 A202 n203 n204 A205 n206 n207 A208 n209 n210 A211 n212 n213 A214 n215 n216 A217 n218 n219).1 w220 → ∀ (n221
    : Nat), (I197 x198 A199 n200 n201 A202 n203 n204 A205 n206 n207 A208 n209 n210 A211 n212 n213 A214 n215 n216 A217 n218 n219).m w220 = n221 → condK (decide (x198 < l)) (∃ (I222 : Int → Option Addr →
    Nat → Nat → Lp), (I222 0 none 0 0).1 w220 ∧ ∀ (x223 : Int) (A224 : Option Addr) (n225 n226 : Nat) (w227 : World), (I222 x223 A224 n225 n226).1 w227 → ∀ (n228 : Nat), (I222 x223 A224 n225 n226).m w227
    = n228 → condK (decide (x223 < (↑n195 : Int))) (IxV A194 n195 1 x223 fun (a229 : Addr) => ∃ (x230 : Int), w227.cell? a229 = some (Value.int IntKind.i64 x230) ∧ IxV (some (Addr.mk n2 0 none)) l.toNat 1
    x198 fun (a231 : Addr) => ∃ (A232 : Option Addr), ∃ (n233 : Nat), ∃ (n234 : Nat), w227.cell? a231 = some (Value.slice A232 n233 n234) ∧ IxV A232 n233 1 x230 fun (a235 : Addr) => ∃ (A236 : Option
    Addr), ∃ (n237 : Nat), ∃ (n238 : Nat), w227.cell? a235 = some (Value.slice A236 n237 n238) ∧ AppK 8 1 [Value.int IntKind.i64 0] 3 A224 n225 n226 A236 n237 w227 fun (A239 : Option Addr) (n240 n241 :
    Nat) (w242 : World) => (I222 (IntKind.i64.wrap (x223 + 1)) A239 n240 n241).1 w242 ∧ (I222 (IntKind.i64.wrap (x223 + 1)) A239 n240 n241).m w242 < n228) (CallsI Try.prog 106 [Value.pointer (some
    (Addr.mk n18 0 none)), Value.slice A224 n225 n226, Value.func (Fn.func 109) (Array.mk []) (Array.mk [Value.pointer (some (Addr.mk n128 0 none)), Value.pointer (some (Addr.mk n19 0 none)),
    Value.pointer (some (Addr.mk n132 0 none))])] w227 [(n18, 133, [Value.slice A199 n200 n201, Value.slice A202 n203 n204, Value.slice A205 n206 n207, Value.slice A208 n209 n210, Value.slice A211 n212
    n213]), (n128, 23, [Value.slice A214 n215 n216]), (n19, 131, [Value.pointer (some (Addr.mk n18 0 none))]), (n132, 89, [Value.func (Fn.func 105) (Array.mk []) (Array.mk [Value.pointer (some (Addr.mk
    n128 0 none)), Value.pointer (some (Addr.mk n131 0 none))])]), (n131, 26, [Value.slice A217 n218 n219])] fun (v243 : Value) (l244 : List (List Value)) (w245 : World) => v243 = Value.tuple (Array.mk
    []) ∧ ∃ (A246 : Option Addr), ∃ (n247 : Nat), ∃ (n248 : Nat), ∃ (A249 : Option Addr), ∃ (n250 : Nat), ∃ (n251 : Nat), ∃ (A252 : Option Addr), ∃ (n253 : Nat), ∃ (n254 : Nat), ∃ (A255 : Option Addr), ∃
    (n256 : Nat), ∃ (n257 : Nat), ∃ (A258 : Option Addr), ∃ (n259 : Nat), ∃ (n260 : Nat), ∃ (A261 : Option Addr), ∃ (n262 : Nat), ∃ (n263 : Nat), ∃ (A264 : Option Addr), ∃ (n265 : Nat), ∃ (n266 : Nat),
    l244 = [[Value.slice A246 n247 n248, Value.slice A249 n250 n251, Value.slice A252 n253 n254, Value.slice A255 n256 n257, Value.slice A258 n259 n260], [Value.slice A261 n262 n263], [Value.pointer (some
    (Addr.mk n18 0 none))], [Value.func (Fn.func 105) (Array.mk []) (Array.mk [Value.pointer (some (Addr.mk n128 0 none)), Value.pointer (some (Addr.mk n131 0 none))])], [Value.slice A264 n265 n266]] ∧
    (I197 (IntKind.i64.wrap (x198 + 1)) A246 n247 n248 A249 n250 n251 A252 n253 n254 A255 n256 n257 A258 n259 n260 A261 n262 n263 A264 n265 n266).1 w245 ∧ (I197 (IntKind.i64.wrap (x198 + 1)) A246 n247
    n248 A249 n250 n251 A252 n253 n254 A255 n256 n257 A258 n259 n260 A261 n262 n263 A264 n265 n266).m w245 < n221)) ((I157 A199 n200 n201 A202 n203 n204 A205 n206 n207 A208 n209 n210 A211 n212 n213 A214
    n215 n216 A217 n218 n219).1 w220 ∧ (I157 A199 n200 n201 A202 n203 n204 A205 n206 n207 A208 n209 n210 A211 n212 n213 A214 n215 n216 A217 n218 n219).m w220 < n180)) (R (Value.slice A164 n165 n166) []
    w179))

def J85_120 (n12 : Nat) (n : Nat) (n14 : Nat) (n16 : Nat) (w17 : World) (k0 : Nat) (K : Option Addr) (B : Option Addr) (m : Nat) (A : Option Addr) (n2 : Nat) (l : Int) (R : Value → List (List Value) →
    World → Prop) : Prop := ((n18 n19 : Nat) → J85_119 n12 n n14 n16 w17 k0 K B m A n2 l n18 n19 R) ∧ ((n267 n268 : Nat) → J85_119 n12 n n14 n16 w17 k0 K B m A n2 l n268 n267 R)

def J85_121 (w15 : World) (n12 : Nat) (n : Nat) (n14 : Nat) (k0 : Nat) (K : Option Addr) (B : Option Addr) (m : Nat) (A : Option Addr) (n2 : Nat) (l : Int) (R : Value → List (List Value) → World →
    Prop) : Prop := (NewK w15 (Obj.cells (Array.mk [Value.int IntKind.i64 0]) 3) fun (n16 : Nat) (w17 : World) => J85_120 n12 n n14 n16 w17 k0 K B m A n2 l R) ∧ ∀ (n516 : Nat), NewK w15 (Obj.cells
    (Array.mk [Value.int IntKind.i64 0]) 3) fun (n517 : Nat) (w518 : World) => (n519 : Nat) → J85_119 n12 n n14 n517 w518 k0 K B m A n2 l n519 n516 R

def J85_122 (n : Nat) (w521 : World) (n12 : Nat) (n520 : Nat) (k0 : Nat) (K : Option Addr) (B : Option Addr) (m : Nat) (A : Option Addr) (n2 : Nat) (l : Int) (R : Value → List (List Value) → World →
    Prop) : Prop := ((↑n : Int) = (↑n : Int) ∧ 0 ≤ (↑n : Int) ∧ (↑n : Int) * (↑8 : Int) ≤ 281474976710656 ∧ (↑n : Int) ≤ 9223372036854775807 ∧ NewK w521 (Obj.cells (Array.mk (List.replicate n (Value.int
    IntKind.i64 0))) 3) fun (n522 : Nat) (w523 : World) => J85_120 n12 n n522 n520 w523 k0 K B m A n2 l R) ∧ ∀ (n528 : Nat), (↑n : Int) = (↑n : Int) ∧ 0 ≤ (↑n : Int) ∧ (↑n : Int) * (↑8 : Int) ≤
    281474976710656 ∧ (↑n : Int) ≤ 9223372036854775807 ∧ NewK w521 (Obj.cells (Array.mk (List.replicate n (Value.int IntKind.i64 0))) 3) fun (n529 : Nat) (w530 : World) => (n531 : Nat) → J85_119 n12 n
    n529 n520 w530 k0 K B m A n2 l n531 n528 R

def J85_123 (w534 : World) (n12 : Nat) (n : Nat) (n533 : Nat) (k0 : Nat) (K : Option Addr) (B : Option Addr) (m : Nat) (A : Option Addr) (n2 : Nat) (l : Int) (n532 : Nat) (R : Value → List (List
    Value) → World → Prop) : Prop := NewK w534 (Obj.cells (Array.mk [Value.int IntKind.i64 0]) 3) fun (n535 : Nat) (w536 : World) => (n537 : Nat) → J85_119 n12 n n533 n535 w536 k0 K B m A n2 l n537 n532 R

def J85_124 (n : Nat) (w539 : World) (n12 : Nat) (n538 : Nat) (k0 : Nat) (K : Option Addr) (B : Option Addr) (m : Nat) (A : Option Addr) (n2 : Nat) (l : Int) (n532 : Nat) (R : Value → List (List
    Value) → World → Prop) : Prop := (↑n : Int) = (↑n : Int) ∧ 0 ≤ (↑n : Int) ∧ (↑n : Int) * (↑8 : Int) ≤ 281474976710656 ∧ (↑n : Int) ≤ 9223372036854775807 ∧ NewK w539 (Obj.cells (Array.mk
    (List.replicate n (Value.int IntKind.i64 0))) 3) fun (n540 : Nat) (w541 : World) => (n542 : Nat) → J85_119 n12 n n540 n538 w541 k0 K B m A n2 l n542 n532 R

def J85_126 (n : Nat) (w558 : World) (n543 : Nat) (n557 : Nat) (k0 : Nat) (K : Option Addr) (B : Option Addr) (m : Nat) (A : Option Addr) (n2 : Nat) (l : Int) (R : Value → List (List Value) → World →
    Prop) : Prop := ((↑n : Int) = (↑n : Int) ∧ 0 ≤ (↑n : Int) ∧ (↑n : Int) * (↑8 : Int) ≤ 281474976710656 ∧ (↑n : Int) ≤ 9223372036854775807 ∧ NewK w558 (Obj.cells (Array.mk (List.replicate n (Value.int
    IntKind.i64 0))) 3) fun (n559 : Nat) (w560 : World) => J85_120 n559 n n543 n557 w560 k0 K B m A n2 l R) ∧ ∀ (n565 : Nat), (↑n : Int) = (↑n : Int) ∧ 0 ≤ (↑n : Int) ∧ (↑n : Int) * (↑8 : Int) ≤
    281474976710656 ∧ (↑n : Int) ≤ 9223372036854775807 ∧ NewK w558 (Obj.cells (Array.mk (List.replicate n (Value.int IntKind.i64 0))) 3) fun (n566 : Nat) (w567 : World) => (n568 : Nat) → J85_119 n566 n
    n543 n557 w567 k0 K B m A n2 l n568 n565 R

def J85_127 (n : Nat) (w576 : World) (n543 : Nat) (n575 : Nat) (k0 : Nat) (K : Option Addr) (B : Option Addr) (m : Nat) (A : Option Addr) (n2 : Nat) (l : Int) (n569 : Nat) (R : Value → List (List
    Value) → World → Prop) : Prop := (↑n : Int) = (↑n : Int) ∧ 0 ≤ (↑n : Int) ∧ (↑n : Int) * (↑8 : Int) ≤ 281474976710656 ∧ (↑n : Int) ≤ 9223372036854775807 ∧ NewK w576 (Obj.cells (Array.mk
    (List.replicate n (Value.int IntKind.i64 0))) 3) fun (n577 : Nat) (w578 : World) => (n579 : Nat) → J85_119 n577 n n543 n575 w578 k0 K B m A n2 l n579 n569 R

theorem s85 (l s : Int) (A : Option Addr) (n c : Nat) (B : Option Addr) (m d : Nat) (K : Option Addr) (k0 k1 : Nat) (w : World) (R : Value → List (List Value) → World → Prop) (h :
    ∀ (_n1 : Nat), l = l ∧ 0 ≤ l ∧ l * (↑24 : Int) ≤ 281474976710656 ∧ l ≤ 9223372036854775807 ∧ NewK w (Obj.cells (Array.mk (List.replicate l.toNat (Value.slice none 0 0))) 22) fun (n2 : Nat) (w3 :
        World) => ∃ (I4 : Int → Lp), (I4 0).1 w3 ∧ ∀ (x5 : Int) (w6 : World), (I4 x5).1 w6 → ∀ (n7 : Nat), (I4 x5).m w6 = n7 → condK (decide (x5 < (↑l.toNat : Int))) ((↑n : Int) = (↑n : Int) ∧ 0 ≤ (↑n : Int)
        ∧ (↑n : Int) * (↑24 : Int) ≤ 281474976710656 ∧ (↑n : Int) ≤ 9223372036854775807 ∧ NewK w6 (Obj.cells (Array.mk (List.replicate n (Value.slice none 0 0))) 26) fun (n8 : Nat) (w9 : World) => IxV (some
        (Addr.mk n2 0 none)) l.toNat 1 x5 fun (a10 : Addr) => SetK w9 a10 (Value.slice (some (Addr.mk n8 0 none)) n n) fun (w11 : World) => J85_1 I4 x5 w11 n7) (((↑n : Int) = (↑n : Int) ∧ 0 ≤ (↑n : Int) ∧ (↑n
        : Int) * (↑8 : Int) ≤ 281474976710656 ∧ (↑n : Int) ≤ 9223372036854775807 ∧ NewK w6 (Obj.cells (Array.mk (List.replicate n (Value.int IntKind.i64 0))) 3) fun (n12 : Nat) (w13 : World) => ((↑n : Int) =
        (↑n : Int) ∧ 0 ≤ (↑n : Int) ∧ (↑n : Int) * (↑8 : Int) ≤ 281474976710656 ∧ (↑n : Int) ≤ 9223372036854775807 ∧ NewK w13 (Obj.cells (Array.mk (List.replicate n (Value.int IntKind.i64 0))) 3) fun (n14 :
        Nat) (w15 : World) => J85_121 w15 n12 n n14 k0 K B m A n2 l R) ∧ (NewK w13 (Obj.cells (Array.mk [Value.int IntKind.i64 0]) 3) fun (n520 : Nat) (w521 : World) => J85_122 n w521 n12 n520 k0 K B m A n2 l
        R) ∧ ∀ (n532 : Nat), ((↑n : Int) = (↑n : Int) ∧ 0 ≤ (↑n : Int) ∧ (↑n : Int) * (↑8 : Int) ≤ 281474976710656 ∧ (↑n : Int) ≤ 9223372036854775807 ∧ NewK w13 (Obj.cells (Array.mk (List.replicate n
        (Value.int IntKind.i64 0))) 3) fun (n533 : Nat) (w534 : World) => J85_123 w534 n12 n n533 k0 K B m A n2 l n532 R) ∧ NewK w13 (Obj.cells (Array.mk [Value.int IntKind.i64 0]) 3) fun (n538 : Nat) (w539 :
        World) => J85_124 n w539 n12 n538 k0 K B m A n2 l n532 R) ∧ ((↑n : Int) = (↑n : Int) ∧ 0 ≤ (↑n : Int) ∧ (↑n : Int) * (↑8 : Int) ≤ 281474976710656 ∧ (↑n : Int) ≤ 9223372036854775807 ∧ NewK w6
        (Obj.cells (Array.mk (List.replicate n (Value.int IntKind.i64 0))) 3) fun (n543 : Nat) (w544 : World) => ((↑n : Int) = (↑n : Int) ∧ 0 ≤ (↑n : Int) ∧ (↑n : Int) * (↑8 : Int) ≤ 281474976710656 ∧ (↑n :
        Int) ≤ 9223372036854775807 ∧ NewK w544 (Obj.cells (Array.mk (List.replicate n (Value.int IntKind.i64 0))) 3) fun (n545 : Nat) (w546 : World) => J85_121 w546 n545 n n543 k0 K B m A n2 l R) ∧ (NewK w544
        (Obj.cells (Array.mk [Value.int IntKind.i64 0]) 3) fun (n557 : Nat) (w558 : World) => J85_126 n w558 n543 n557 k0 K B m A n2 l R) ∧ ∀ (n569 : Nat), ((↑n : Int) = (↑n : Int) ∧ 0 ≤ (↑n : Int) ∧ (↑n :
        Int) * (↑8 : Int) ≤ 281474976710656 ∧ (↑n : Int) ≤ 9223372036854775807 ∧ NewK w544 (Obj.cells (Array.mk (List.replicate n (Value.int IntKind.i64 0))) 3) fun (n570 : Nat) (w571 : World) => J85_123 w571
        n570 n n543 k0 K B m A n2 l n569 R) ∧ NewK w544 (Obj.cells (Array.mk [Value.int IntKind.i64 0]) 3) fun (n575 : Nat) (w576 : World) => J85_127 n w576 n543 n575 k0 K B m A n2 l n569 R) ∧ (NewK w6
        (Obj.cells (Array.mk [Value.int IntKind.i64 0]) 3) fun (n580 : Nat) (w581 : World) => ((↑n : Int) = (↑n : Int) ∧ 0 ≤ (↑n : Int) ∧ (↑n : Int) * (↑8 : Int) ≤ 281474976710656 ∧ (↑n : Int) ≤
        9223372036854775807 ∧ NewK w581 (Obj.cells (Array.mk (List.replicate n (Value.int IntKind.i64 0))) 3) fun (n582 : Nat) (w583 : World) => J85_122 n w583 n582 n580 k0 K B m A n2 l R) ∧ ((↑n : Int) = (↑n
        : Int) ∧ 0 ≤ (↑n : Int) ∧ (↑n : Int) * (↑8 : Int) ≤ 281474976710656 ∧ (↑n : Int) ≤ 9223372036854775807 ∧ NewK w581 (Obj.cells (Array.mk (List.replicate n (Value.int IntKind.i64 0))) 3) fun (n594 :
        Nat) (w595 : World) => J85_126 n w595 n594 n580 k0 K B m A n2 l R) ∧ ∀ (n606 : Nat), ((↑n : Int) = (↑n : Int) ∧ 0 ≤ (↑n : Int) ∧ (↑n : Int) * (↑8 : Int) ≤ 281474976710656 ∧ (↑n : Int) ≤
        9223372036854775807 ∧ NewK w581 (Obj.cells (Array.mk (List.replicate n (Value.int IntKind.i64 0))) 3) fun (n607 : Nat) (w608 : World) => J85_124 n w608 n607 n580 k0 K B m A n2 l n606 R) ∧ (↑n : Int) =
        (↑n : Int) ∧ 0 ≤ (↑n : Int) ∧ (↑n : Int) * (↑8 : Int) ≤ 281474976710656 ∧ (↑n : Int) ≤ 9223372036854775807 ∧ NewK w581 (Obj.cells (Array.mk (List.replicate n (Value.int IntKind.i64 0))) 3) fun (n612 :
        Nat) (w613 : World) => J85_127 n w613 n612 n580 k0 K B m A n2 l n606 R) ∧ ∀ (n617 : Nat), ((↑n : Int) = (↑n : Int) ∧ 0 ≤ (↑n : Int) ∧ (↑n : Int) * (↑8 : Int) ≤ 281474976710656 ∧ (↑n : Int) ≤
        9223372036854775807 ∧ NewK w6 (Obj.cells (Array.mk (List.replicate n (Value.int IntKind.i64 0))) 3) fun (n618 : Nat) (w619 : World) => ((↑n : Int) = (↑n : Int) ∧ 0 ≤ (↑n : Int) ∧ (↑n : Int) * (↑8 :
        Int) ≤ 281474976710656 ∧ (↑n : Int) ≤ 9223372036854775807 ∧ NewK w619 (Obj.cells (Array.mk (List.replicate n (Value.int IntKind.i64 0))) 3) fun (n620 : Nat) (w621 : World) => J85_123 w621 n618 n n620
        k0 K B m A n2 l n617 R) ∧ NewK w619 (Obj.cells (Array.mk [Value.int IntKind.i64 0]) 3) fun (n625 : Nat) (w626 : World) => J85_124 n w626 n618 n625 k0 K B m A n2 l n617 R) ∧ ((↑n : Int) = (↑n : Int) ∧
        0 ≤ (↑n : Int) ∧ (↑n : Int) * (↑8 : Int) ≤ 281474976710656 ∧ (↑n : Int) ≤ 9223372036854775807 ∧ NewK w6 (Obj.cells (Array.mk (List.replicate n (Value.int IntKind.i64 0))) 3) fun (n630 : Nat) (w631 :
        World) => ((↑n : Int) = (↑n : Int) ∧ 0 ≤ (↑n : Int) ∧ (↑n : Int) * (↑8 : Int) ≤ 281474976710656 ∧ (↑n : Int) ≤ 9223372036854775807 ∧ NewK w631 (Obj.cells (Array.mk (List.replicate n (Value.int
        IntKind.i64 0))) 3) fun (n632 : Nat) (w633 : World) => J85_123 w633 n632 n n630 k0 K B m A n2 l n617 R) ∧ NewK w631 (Obj.cells (Array.mk [Value.int IntKind.i64 0]) 3) fun (n637 : Nat) (w638 : World)
        => J85_127 n w638 n630 n637 k0 K B m A n2 l n617 R) ∧ NewK w6 (Obj.cells (Array.mk [Value.int IntKind.i64 0]) 3) fun (n642 : Nat) (w643 : World) => ((↑n : Int) = (↑n : Int) ∧ 0 ≤ (↑n : Int) ∧ (↑n :
        Int) * (↑8 : Int) ≤ 281474976710656 ∧ (↑n : Int) ≤ 9223372036854775807 ∧ NewK w643 (Obj.cells (Array.mk (List.replicate n (Value.int IntKind.i64 0))) 3) fun (n644 : Nat) (w645 : World) => J85_124 n
        w645 n644 n642 k0 K B m A n2 l n617 R) ∧ (↑n : Int) = (↑n : Int) ∧ 0 ≤ (↑n : Int) ∧ (↑n : Int) * (↑8 : Int) ≤ 281474976710656 ∧ (↑n : Int) ≤ 9223372036854775807 ∧ NewK w643 (Obj.cells (Array.mk
        (List.replicate n (Value.int IntKind.i64 0))) 3) fun (n649 : Nat) (w650 : World) => J85_127 n w650 n649 n642 k0 K B m A n2 l n617 R)) :
    CallsI Try.prog 85 [(.agg #[.int .i64 l, .int .i64 s, .slice A n c, .slice B m d]), (.slice K k0 k1)] w [] R :=
  vcFun_sound (H := ⟨[((28, 3), [((133, 0), true), ((23, 0), true), ((131, 0), false), ((89, 0), false), ((26, 0), true)]), ((43, 3), [((133, 0), true), ((23, 0), true), ((131, 0), false), ((89, 0), false), ((26, 0), true)])], [(0, [(27, .int .i64)], []), (2, [(51, .int .i64), (8, .slice)], [(133, 0)]), (4, [(94, .int .i64)], []), (6, [], [(133, 0), (23, 0), (26, 0)]), (8, [(188, .int .i64)], [(133, 0), (23, 0), (26, 0)]), (10, [(193, .int .i64), (19, .slice)], [])]⟩) (args := [.v (.agg #[.int .i64 l, .int .i64 s, .slice A n c, .slice B m d]), .v (.slice K k0 k1)]) (L := []) goodP Try.func85 (by simp [okp]) (by rw [Try.ntmps85]; simp) (by simp [okp]) (Eq.mp (by kernel_rfl) h)

end Go.Proofs.Ytnkpjlhbojjneaa.VC
