/- Written by a program of this session (out of what the print wrote for this seat): the functions' walks, packed. -/
import Derived.Test.YtjbejbehbjhecaaZ21nx2
namespace Go.Proofs.Ytjbejbehbjhecaa.Q21n
open Go.RowKit Go.Proofs.YtjbejbehbjhecaaW.PrintWords Go.Proofs.YtjbejbehbjhecaaW.PrintLast Go.Proofs.YtjbejbehbjhecaaW.PrintMore
attribute [local go_sem] max2_int min2_int max_two min_two max_three min_three max_four min_four   -- for this text's walks alone
set_option linter.unusedVariables false
set_option linter.unusedSimpArgs false

set_option maxHeartbeats 8000000 in
set_option maxRecDepth 100000 in
theorem watchwordlaw21_PathsTriangle.rest : ∀ (k : Nat) (a0_0 a0_1 a0_2 a0_3 a0_4 a0_5 a0_6 a0_7 a0_8 a0_9 a0_10 a0_11 a0_12 a0_13 a0_14 a0_15 a1 a2 : Int) (r : Bool) (w : Go.World),
 Go.Program.underlying Try.prog 23 = some (Go.TypeDesc.array 4 22) →
 Go.Program.underlying Try.prog 44 = some (Go.TypeDesc.array 5 3) →
 Aside0 (r = true) →
 Aside0 (watchwordlaw21_awake.f k = some true) →
 ∀ (t206 : List S41) (t209 : Int),
 Aside0 (paths_Routes.f k a0_0 a0_1 a0_2 a0_3 a0_4 a0_5 a0_6 a0_7 a0_8 a0_9 a0_10 a0_11 a0_12 a0_13 a0_14 a0_15 a1 = some (t206, t209)) →
 ∀ (t210 : Int),
 Aside0 (watchwordlaw0_Num.f t209 = some t210) →
 ∀ (gb204 : Nat) (w10 : Go.World),
 Aside0 (Array.size (Go.World.heap w) ≤ gb204) →
 Aside0 (Array.size (Go.World.heap w) ≤ gb204) →
 ∀ (w11 w13 : Go.World),
 Aside0 ((Go.World.heap w13)[gb204]? = some (Go.Obj.cells #[Go.Value.int Go.IntKind.i64 a0_0, Go.Value.int Go.IntKind.i64 a0_1, Go.Value.int Go.IntKind.i64 a0_2, Go.Value.int Go.IntKind.i64 a0_3, Go.Value.int Go.IntKind.i64 a0_4, Go.Value.int Go.IntKind.i64 a0_5, Go.Value.int Go.IntKind.i64 a0_6, Go.Value.int Go.IntKind.i64 a0_7, Go.Value.int Go.IntKind.i64 a0_8, Go.Value.int Go.IntKind.i64 a0_9, Go.Value.int Go.IntKind.i64 a0_10, Go.Value.int Go.IntKind.i64 a0_11, Go.Value.int Go.IntKind.i64 a0_12, Go.Value.int Go.IntKind.i64 a0_13, Go.Value.int Go.IntKind.i64 a0_14, Go.Value.int Go.IntKind.i64 a0_15] 23)) →
 Aside0 (Below (Array.size (Go.World.heap w)) w w13) →
 ∀ (nd : Nat) (z1_ : Go.World) (z2_ z3_ z4_ z5_ z6_ z7_ z8_ z9_ z10_ z11_ z12_ z13_ z14_ z15_ z16_ z17_ z18_ z19_ z20_ z4__1 z5__1 z6__1 z7__1 z8__1 z9__1 z10__1 z11__1 z12__1 z13__1 z14__1 z15__1 z16__1 z17__1 z18__1 z19__1 z20__1 z21_ z22_ z23_ z24_ z25_ z26_ z27_ z28_ z29_ z30_ z31_ z32_ z33_ z34_ z35_ z36_ z37_ z38_ z39_ z40_ z41_ z42_ z43_ z44_ z45_ z46_ z47_ z48_ z49_ z50_ z51_ z52_ z53_ z54_ z55_ z56_ z57_ z58_ z59_ z60_ z61_ z62_ z63_ z64_ z65_ z66_ z67_ z68_ z69_ z70_ z71_ z72_ z73_ z74_ z75_ z76_ z77_ z78_ z79_ z80_ z81_ z82_ z83_ z84_ z85_ z86_ z87_ z88_ z89_ z90_ z21_ z22_ z23_ z24_ z25_ z26_ z27_ z28_ z29_ z30_ z31_ z32_ z33_ z34_ z35__1 z36__1 z37__1 z38__1 z39__1 z40__1 z41__1 z42__1 z43__1 z44__1 z45__1 z46__1 z47__1 z48__1 z49__1 z50__1 z51__1 z52__1 z53__1 z54__1 z55__1 z56__1 z57__1 z58__1 z59__1 z60__1 z61__1 z62__1 z63__1 z64__1 z65__1 z66__1 z67__1 z68__1 z69__1 z70__1 z71__1 z72__1 z73__1 z74__1 z75__1 z76__1 z77__1 z78__1 z79__1 z80__1 z81__1 z82__1 z83__1 z84__1 z85__1 z86__1 z87__1 z88__1 z89__1 z90__1 z91_ z92_ z93_ z94_ z95_ z96_ z97_ z98_ z99_ z100_ : Go.Value) (kj8 : Nat),
 Aside0 (kj8 + 1 ≤ k) →
 ∀ (gb211 : Nat) (w16 : Go.World),
 Aside0 ((Go.World.heap w16)[gb204]? = some (Go.Obj.cells #[Go.Value.int Go.IntKind.i64 a0_0, Go.Value.int Go.IntKind.i64 a0_1, Go.Value.int Go.IntKind.i64 a0_2, Go.Value.int Go.IntKind.i64 a0_3, Go.Value.int Go.IntKind.i64 a0_4, Go.Value.int Go.IntKind.i64 a0_5, Go.Value.int Go.IntKind.i64 a0_6, Go.Value.int Go.IntKind.i64 a0_7, Go.Value.int Go.IntKind.i64 a0_8, Go.Value.int Go.IntKind.i64 a0_9, Go.Value.int Go.IntKind.i64 a0_10, Go.Value.int Go.IntKind.i64 a0_11, Go.Value.int Go.IntKind.i64 a0_12, Go.Value.int Go.IntKind.i64 a0_13, Go.Value.int Go.IntKind.i64 a0_14, Go.Value.int Go.IntKind.i64 a0_15] 23)) →
 Aside0 (Below (Array.size (Go.World.heap w)) w w16) →
 Aside0 ((Go.World.heap w16)[gb211]? = some (Go.Obj.cells #[Go.Value.int Go.IntKind.i64 0, Go.Value.int Go.IntKind.i64 0, Go.Value.int Go.IntKind.i64 0, Go.Value.int Go.IntKind.i64 0, Go.Value.int Go.IntKind.i64 0] 44)) →
 Aside0 (Array.size (Go.World.heap w) ≤ gb211) →
 Aside0 (Array.size (Go.World.heap w) ≤ gb211) →
 Aside0 (gb204 ≠ gb211) →
 Aside0 (gb211 ≠ gb204) →
 ∀ (z94__1 : Go.Act → Go.World → Prop) (z95__1 : Go.World) (z96__1 z101_ z102_ z103_ z104_ z105_ z106_ z107_ z108_ z109_ z110_ z111_ z112_ z113_ z114_ z115_ z116_ z117_ z118_ z119_ z120_ z121_ z122_ z123_ z124_ z125_ z126_ z127_ z128_ z129_ z130_ z131_ : Go.Value) (z97__1 : Nat → Go.Act → Go.World → Prop) (z98__1 : Go.Act → Go.World → Prop) (x10_2 x212000_2 x212001_2 x212002_2 x212003_2 x212004_2 : Int),
 Aside0 ((Go.World.heap z95__1)[gb204]? = some (Go.Obj.cells #[Go.Value.int Go.IntKind.i64 a0_0, Go.Value.int Go.IntKind.i64 a0_1, Go.Value.int Go.IntKind.i64 a0_2, Go.Value.int Go.IntKind.i64 a0_3, Go.Value.int Go.IntKind.i64 a0_4, Go.Value.int Go.IntKind.i64 a0_5, Go.Value.int Go.IntKind.i64 a0_6, Go.Value.int Go.IntKind.i64 a0_7, Go.Value.int Go.IntKind.i64 a0_8, Go.Value.int Go.IntKind.i64 a0_9, Go.Value.int Go.IntKind.i64 a0_10, Go.Value.int Go.IntKind.i64 a0_11, Go.Value.int Go.IntKind.i64 a0_12, Go.Value.int Go.IntKind.i64 a0_13, Go.Value.int Go.IntKind.i64 a0_14, Go.Value.int Go.IntKind.i64 a0_15] 23)) →
 Aside0 ((Go.World.heap z95__1)[gb211]? = some (Go.Obj.cells #[Go.Value.int Go.IntKind.i64 x212000_2, Go.Value.int Go.IntKind.i64 x212001_2, Go.Value.int Go.IntKind.i64 x212002_2, Go.Value.int Go.IntKind.i64 x212003_2, Go.Value.int Go.IntKind.i64 x212004_2] 44)) →
 Aside0 (Below (Array.size (Go.World.heap w)) w z95__1) →
 ∀ (k2 : Nat),
 (∀ (a' : Go.Act) (w' : Go.World), Go.Handed z97__1 (k2 + 1) a' w' → z98__1 a' w') →
 Aside0 (k2 + 1 ≤ kj8) →
 ∀ (Ao27 : Option Go.Addr) (co27 : Nat),
 Aside0 (Kd.S k41 41 w13 (Array.size (Go.World.heap w)) (fun (x : Nat) => True) (Go.Value.slice Ao27 (List.length t206) co27) t206) →
 Aside0 (Kd.S k41 41 w16 (Array.size (Go.World.heap w)) (fun (x : Nat) => True) (Go.Value.slice Ao27 (List.length t206) co27) t206) →
 (∀ (k : Nat) (a' : Go.Act) (w' : Go.World),
 (∃ (u6 : Go.Value),
 ∃ (u10 : Go.Value),
 ∃ (u40 : Go.Value),
 ∃ (u41 : Go.Value),
 ∃ (u42 : Go.Value),
 ∃ (u43 : Go.Value),
 ∃ (u44 : Go.Value),
 ∃ (u45 : Go.Value),
 ∃ (u46 : Go.Value),
 ∃ (u47 : Go.Value),
 ∃ (u48 : Go.Value),
 ∃ (u49 : Go.Value),
 ∃ (u50 : Go.Value),
 ∃ (u51 : Go.Value),
 ∃ (u52 : Go.Value),
 ∃ (u53 : Go.Value),
 ∃ (u54 : Go.Value),
 ∃ (u55 : Go.Value),
 ∃ (u56 : Go.Value),
 ∃ (u57 : Go.Value),
 ∃ (u58 : Go.Value),
 ∃ (u59 : Go.Value),
 ∃ (u60 : Go.Value),
 ∃ (u61 : Go.Value),
 ∃ (u62 : Go.Value),
 ∃ (u63 : Go.Value),
 ∃ (u64 : Go.Value),
 ∃ (u65 : Go.Value),
 ∃ (u66 : Go.Value),
 ∃ (u67 : Go.Value),
 ∃ (u68 : Go.Value),
 ∃ (u69 : Go.Value),
 ∃ (u70 : Go.Value),
 (∃ (x10_2 : Int), ∃ (x212000_2 : Int), ∃ (x212001_2 : Int), ∃ (x212002_2 : Int), ∃ (x212003_2 : Int), ∃ (x212004_2 : Int), u10 = Go.Value.int Go.IntKind.i64 x10_2 ∧ Aside0 (watchwordlaw21_PathsTriangle.l0 k a1 a2 t206 x10_2 a0_0 a0_1 a0_2 a0_3 a0_4 a0_5 a0_6 a0_7 a0_8 a0_9 a0_10 a0_11 a0_12 a0_13 a0_14 a0_15 x212000_2 x212001_2 x212002_2 x212003_2 x212004_2 = some r) ∧ Aside0 (k ≤ kj8) ∧ Aside0 (Kd.S k41 41 w' (Array.size (Go.World.heap w)) (fun (x : Nat) => True) (Go.Value.slice Ao27 (List.length t206) co27) t206) ∧ Aside0 ((Go.World.heap w')[gb204]? = some (Go.Obj.cells #[Go.Value.int Go.IntKind.i64 a0_0, Go.Value.int Go.IntKind.i64 a0_1, Go.Value.int Go.IntKind.i64 a0_2, Go.Value.int Go.IntKind.i64 a0_3, Go.Value.int Go.IntKind.i64 a0_4, Go.Value.int Go.IntKind.i64 a0_5, Go.Value.int Go.IntKind.i64 a0_6, Go.Value.int Go.IntKind.i64 a0_7, Go.Value.int Go.IntKind.i64 a0_8, Go.Value.int Go.IntKind.i64 a0_9, Go.Value.int Go.IntKind.i64 a0_10, Go.Value.int Go.IntKind.i64 a0_11, Go.Value.int Go.IntKind.i64 a0_12, Go.Value.int Go.IntKind.i64 a0_13, Go.Value.int Go.IntKind.i64 a0_14, Go.Value.int Go.IntKind.i64 a0_15] 23)) ∧ Aside0 ((Go.World.heap w')[gb211]? = some (Go.Obj.cells #[Go.Value.int Go.IntKind.i64 x212000_2, Go.Value.int Go.IntKind.i64 x212001_2, Go.Value.int Go.IntKind.i64 x212002_2, Go.Value.int Go.IntKind.i64 x212003_2, Go.Value.int Go.IntKind.i64 x212004_2] 44)) ∧ Aside0 (Below (Array.size (Go.World.heap w)) w w')) ∧
 a' = { tmps := #[Go.Value.agg #[Go.Value.int Go.IntKind.i64 a0_0, Go.Value.int Go.IntKind.i64 a0_1, Go.Value.int Go.IntKind.i64 a0_2, Go.Value.int Go.IntKind.i64 a0_3, Go.Value.int Go.IntKind.i64 a0_4, Go.Value.int Go.IntKind.i64 a0_5, Go.Value.int Go.IntKind.i64 a0_6, Go.Value.int Go.IntKind.i64 a0_7, Go.Value.int Go.IntKind.i64 a0_8, Go.Value.int Go.IntKind.i64 a0_9, Go.Value.int Go.IntKind.i64 a0_10, Go.Value.int Go.IntKind.i64 a0_11, Go.Value.int Go.IntKind.i64 a0_12, Go.Value.int Go.IntKind.i64 a0_13, Go.Value.int Go.IntKind.i64 a0_14, Go.Value.int Go.IntKind.i64 a0_15], Go.Value.int Go.IntKind.i64 a1, Go.Value.int Go.IntKind.i64 a2, Go.Value.pointer (some { block := gb204, off := 0 }), Go.undef, Go.undef, u6, Go.Value.slice Ao27 (List.length t206) co27, Go.Value.int Go.IntKind.i64 t209, Go.Value.pointer (some { block := gb211, off := 0 }), u10, Go.undef, Go.undef, Go.undef, Go.undef, Go.undef, Go.undef, Go.undef, Go.undef, Go.undef, z2_, z3_, z4_, z5_, z6_, z7_, z8_, z9_, z10_, z11_, z12_, z13_, z14_, z15_, z16_, z17_, z18_, z19_, z20_, Go.Value.bool false, u40, u41, u42, u43, u44, u45, u46, u47, u48, u49, u50, u51, u52, u53, u54, u55, u56, u57, u58, u59, u60, u61, u62, u63, u64, u65, u66, u67, u68, u69, u70, z35_, z36_, z37_, z38_, z39_, z40_, z41_, z42_, z43_, z44_, z45_, z46_, z47_, z48_, z49_, z50_, z51_, z52_, z53_, z54_, z55_, z56_, z57_, z58_, z59_, z60_, z61_, z62_, z63_, z64_, z65_, z66_, z67_, z68_, z69_, z70_, z71_, z72_, z73_, z74_, z75_, z76_, z77_, z78_, z79_, z80_, z81_, z82_, z83_, z84_, z85_, z86_, z87_, z88_, z89_, z90_, z21_, z22_, z23_, z24_, z25_, z26_, z27_, z28_, z29_, z30_, z31_, z32_, z33_, z34_, z35__1, z36__1, z37__1, z38__1, z39__1, z40__1, z41__1, z42__1, z43__1, z44__1, z45__1, z46__1, z47__1, z48__1, z49__1, z50__1, z51__1, z52__1, z53__1, z54__1, z55__1, z56__1, z57__1, z58__1, z59__1, z60__1, z61__1, z62__1, z63__1, z64__1, z65__1, z66__1, z67__1, z68__1, z69__1, z70__1, z71__1, z72__1, z73__1, z74__1, z75__1, z76__1, z77__1, z78__1, z79__1, z80__1, z81__1, z82__1, z83__1, z84__1, z85__1, z86__1, z87__1, z88__1, z89__1, z90__1, z91_, z92_, z93_, z94_, z95_, z96_, z97_, z98_, z99_, z100_], defers := [] }) →
 z97__1 k a' w') →
 Aside0 (Kd.S k41 41 z95__1 (Array.size (Go.World.heap w)) (fun (x : Nat) => True) (Go.Value.slice Ao27 (List.length t206) co27) t206) →
 ∀ (z106__1 : Go.Act → Go.World → Prop),
 (∀ (a : Go.Act) (w_1 : Go.World),
 Go.Code.wp Try.prog
 (Go.Code.seq
 (Go.Code.block 1
 (Go.Code.seq (Go.Code.seq (Go.Code.region 12 #[{ dst := some 46, op := Go.Op.move (Go.Operand.tmp 7), type := 24, pos := "more.go:38", after := #[], guard := none }, { dst := some 47, op := Go.Op.move (Go.Operand.tmp 10), type := 3, pos := "more.go:38", after := #[], guard := none }, { dst := some 48, op := Go.Op.indexAddr 24 (Go.Operand.tmp 46) (Go.Operand.tmp 47), type := 0, pos := "more.go:38", after := #[{ on := 0, ground := Go.Ground.data }, { on := 1, ground := Go.Ground.data }], guard := none }, { dst := some 49, op := Go.Op.fieldAddr 41 (Go.Operand.tmp 48) 0, type := 0, pos := "more.go:38", after := #[{ on := 2, ground := Go.Ground.data }], guard := none }, { dst := some 50, op := Go.Op.load 3 (Go.Operand.tmp 49), type := 3, pos := "more.go:38", after := #[{ on := 3, ground := Go.Ground.data }], guard := none }, { dst := some 51, op := Go.Op.binOp Go.BinOp.lss 3 (Go.Operand.tmp 50) (Go.Operand.const (Go.Value.int Go.IntKind.i64 1)) 3, type := 4, pos := "more.go:38", after := #[{ on := 4, ground := Go.Ground.data }], guard := none }, { dst := some 52, op := Go.Op.move (Go.Operand.tmp 51), type := 4, pos := "more.go:38", after := #[{ on := 5, ground := Go.Ground.data }], guard := none }, { dst := some 53, op := Go.Op.move (Go.Operand.tmp 7), type := 24, pos := "more.go:38", after := #[{ on := 6, ground := Go.Ground.guard }], guard := some (6, false) }, { dst := some 54, op := Go.Op.move (Go.Operand.tmp 10), type := 3, pos := "more.go:38", after := #[{ on := 6, ground := Go.Ground.guard }], guard := some (6, false) }, { dst := some 55, op := Go.Op.indexAddr 24 (Go.Operand.tmp 53) (Go.Operand.tmp 54), type := 0, pos := "more.go:38", after := #[{ on := 7, ground := Go.Ground.data }, { on := 8, ground := Go.Ground.data }, { on := 6, ground := Go.Ground.guard }], guard := some (6, false) }, { dst := some 56, op := Go.Op.fieldAddr 41 (Go.Operand.tmp 55) 0, type := 0, pos := "more.go:38", after := #[{ on := 9, ground := Go.Ground.data }, { on := 6, ground := Go.Ground.guard }], guard := some (6, false) }, { dst := some 57, op := Go.Op.load 3 (Go.Operand.tmp 56), type := 3, pos := "more.go:38", after := #[{ on := 10, ground := Go.Ground.data }, { on := 6, ground := Go.Ground.guard }], guard := some (6, false) }, { dst := some 58, op := Go.Op.binOp Go.BinOp.gtr 3 (Go.Operand.tmp 57) (Go.Operand.const (Go.Value.int Go.IntKind.i64 4)) 3, type := 4, pos := "more.go:38", after := #[{ on := 11, ground := Go.Ground.data }, { on := 6, ground := Go.Ground.guard }], guard := some (6, false) }, { dst := some 59, op := Go.Op.pick (Go.Operand.tmp 52) (Go.Operand.const (Go.Value.bool true)) (Go.Operand.tmp 58), type := 4, pos := "more.go:38", after := #[{ on := 6, ground := Go.Ground.data }, { on := 12, ground := Go.Ground.data }], guard := none }] false) (Go.Code.cond (Go.Operand.tmp 59) (Go.Code.seq (Go.Code.region 13 #[{ dst := some 6, op := Go.Op.assign (Go.Operand.const (Go.Value.bool false)), type := 4, pos := "more.go:39", after := #[], guard := none }] false) Go.Code.ret) Go.Code.skip))
 (Go.Code.region 14 #[{ dst := some 60, op := Go.Op.move (Go.Operand.tmp 7), type := 24, pos := "more.go:41", after := #[], guard := none }, { dst := some 61, op := Go.Op.move (Go.Operand.tmp 10), type := 3, pos := "more.go:41", after := #[], guard := none }, { dst := some 62, op := Go.Op.indexAddr 24 (Go.Operand.tmp 60) (Go.Operand.tmp 61), type := 0, pos := "more.go:41", after := #[{ on := 0, ground := Go.Ground.data }, { on := 1, ground := Go.Ground.data }], guard := none }, { dst := some 63, op := Go.Op.fieldAddr 41 (Go.Operand.tmp 62) 0, type := 0, pos := "more.go:41", after := #[{ on := 2, ground := Go.Ground.data }], guard := none }, { dst := some 64, op := Go.Op.load 3 (Go.Operand.tmp 63), type := 3, pos := "more.go:41", after := #[{ on := 3, ground := Go.Ground.data }], guard := none }, { dst := some 65, op := Go.Op.move (Go.Operand.tmp 7), type := 24, pos := "more.go:41", after := #[], guard := none }, { dst := some 66, op := Go.Op.move (Go.Operand.tmp 10), type := 3, pos := "more.go:41", after := #[], guard := none }, { dst := some 67, op := Go.Op.indexAddr 24 (Go.Operand.tmp 65) (Go.Operand.tmp 66), type := 0, pos := "more.go:41", after := #[{ on := 5, ground := Go.Ground.data }, { on := 6, ground := Go.Ground.data }], guard := none }, { dst := some 68, op := Go.Op.fieldAddr 41 (Go.Operand.tmp 67) 1, type := 0, pos := "more.go:41", after := #[{ on := 7, ground := Go.Ground.data }], guard := none }, { dst := some 69, op := Go.Op.load 3 (Go.Operand.tmp 68), type := 3, pos := "more.go:41", after := #[{ on := 8, ground := Go.Ground.data }], guard := none }, { dst := some 70, op := Go.Op.indexAddr 44 (Go.Operand.tmp 9) (Go.Operand.tmp 64), type := 0, pos := "more.go:41", after := #[{ on := 4, ground := Go.Ground.data }, { on := 0, ground := Go.Ground.phase }, { on := 1, ground := Go.Ground.phase }, { on := 2, ground := Go.Ground.phase }, { on := 3, ground := Go.Ground.phase }, { on := 4, ground := Go.Ground.phase }, { on := 5, ground := Go.Ground.phase }, { on := 6, ground := Go.Ground.phase }, { on := 7, ground := Go.Ground.phase }, { on := 8, ground := Go.Ground.phase }, { on := 9, ground := Go.Ground.phase }], guard := none }, { dst := none, op := Go.Op.store 3 (Go.Operand.tmp 70) (Go.Operand.tmp 69), type := 0, pos := "more.go:41", after := #[{ on := 10, ground := Go.Ground.data }, { on := 9, ground := Go.Ground.data }, { on := 0, ground := Go.Ground.phase }, { on := 1, ground := Go.Ground.phase }, { on := 2, ground := Go.Ground.phase }, { on := 3, ground := Go.Ground.phase }, { on := 4, ground := Go.Ground.phase }, { on := 5, ground := Go.Ground.phase }, { on := 6, ground := Go.Ground.phase }, { on := 7, ground := Go.Ground.phase }, { on := 8, ground := Go.Ground.phase }, { on := 9, ground := Go.Ground.phase }], guard := none }] true)))
 (Go.Code.region 11 #[{ dst := some 44, op := Go.Op.move (Go.Operand.tmp 10), type := 3, pos := "more.go:37", after := #[], guard := none }, { dst := some 45, op := Go.Op.binOp Go.BinOp.add 3 (Go.Operand.tmp 44) (Go.Operand.const (Go.Value.int Go.IntKind.i64 1)) 3, type := 3, pos := "more.go:37", after := #[{ on := 0, ground := Go.Ground.data }], guard := none }, { dst := some 10, op := Go.Op.assign (Go.Operand.tmp 45), type := 3, pos := "more.go:37", after := #[{ on := 1, ground := Go.Ground.data }, { on := 0, ground := Go.Ground.phase }, { on := 1, ground := Go.Ground.phase }], guard := none }] false))
 (Go.Exit.then z98__1 (Go.Exit.inBlock 0 (Go.Exit.then z94__1 (Go.bodyPost Try.prog Try.f6 fun (e : Go.Ending) (w' : Go.World) => e = Go.Ending.returned (Go.Value.bool r) ∧ Below (Array.size (Go.World.heap w)) w w')))) a w_1 →
 z106__1 a w_1) →
 ∀ (z108__1 : Go.Act → Go.World → Prop) (wr : Go.World) (u6 u12 u13 z132_ z133_ z134_ z135_ z136_ z137_ z138_ z139_ z140_ z141_ z142_ z143_ z144_ z145_ z146_ z147_ z148_ z149_ z150_ z151_ z152_ z153_ z154_ z155_ z156_ z157_ z158_ z159_ z160_ z161_ z162_ z163_ z164_ z165_ z166_ z167_ z168_ z169_ z170_ z171_ z172_ z173_ z174_ z175_ z176_ z177_ z178_ z179_ z180_ z181_ z182_ z183_ z184_ z185_ z186_ z187_ : Go.Value) (z110__1 : Nat → Go.Act → Go.World → Prop) (z111__1 : Go.Act → Go.World → Prop),
 (∀ (k : Nat) (a' : Go.Act) (w' : Go.World),
 (∃ (u6 : Go.Value),
 ∃ (u11 : Go.Value),
 ∃ (u12 : Go.Value),
 ∃ (u13 : Go.Value),
 ∃ (u71 : Go.Value),
 ∃ (u72 : Go.Value),
 ∃ (u73 : Go.Value),
 ∃ (u74 : Go.Value),
 ∃ (u75 : Go.Value),
 ∃ (u76 : Go.Value),
 ∃ (u77 : Go.Value),
 ∃ (u78 : Go.Value),
 ∃ (u79 : Go.Value),
 ∃ (u80 : Go.Value),
 ∃ (u81 : Go.Value),
 ∃ (u82 : Go.Value),
 ∃ (u83 : Go.Value),
 ∃ (u84 : Go.Value),
 ∃ (u85 : Go.Value),
 ∃ (u86 : Go.Value),
 ∃ (u87 : Go.Value),
 ∃ (u88 : Go.Value),
 ∃ (u89 : Go.Value),
 ∃ (u90 : Go.Value),
 ∃ (u91 : Go.Value),
 ∃ (u92 : Go.Value),
 ∃ (u93 : Go.Value),
 ∃ (u94 : Go.Value),
 ∃ (u95 : Go.Value),
 ∃ (u96 : Go.Value),
 ∃ (u97 : Go.Value),
 ∃ (u98 : Go.Value),
 ∃ (u99 : Go.Value),
 ∃ (u100 : Go.Value),
 ∃ (u101 : Go.Value),
 ∃ (u102 : Go.Value),
 ∃ (u103 : Go.Value),
 ∃ (u104 : Go.Value),
 ∃ (u105 : Go.Value),
 ∃ (u106 : Go.Value),
 ∃ (u107 : Go.Value),
 ∃ (u108 : Go.Value),
 ∃ (u109 : Go.Value),
 ∃ (u110 : Go.Value),
 ∃ (u111 : Go.Value),
 ∃ (u112 : Go.Value),
 ∃ (u113 : Go.Value),
 ∃ (u114 : Go.Value),
 ∃ (u115 : Go.Value),
 ∃ (u116 : Go.Value),
 ∃ (u117 : Go.Value),
 ∃ (u118 : Go.Value),
 ∃ (u119 : Go.Value),
 ∃ (u120 : Go.Value),
 ∃ (u121 : Go.Value),
 ∃ (u122 : Go.Value),
 ∃ (u123 : Go.Value),
 ∃ (u124 : Go.Value),
 ∃ (u125 : Go.Value),
 ∃ (u126 : Go.Value),
 (∃ (x11_3 : Int), u11 = Go.Value.int Go.IntKind.i64 x11_3 ∧ Aside0 (watchwordlaw21_PathsTriangle.l1 k a1 a2 t206 x11_3 a0_0 a0_1 a0_2 a0_3 a0_4 a0_5 a0_6 a0_7 a0_8 a0_9 a0_10 a0_11 a0_12 a0_13 a0_14 a0_15 x212000_2 x212001_2 x212002_2 x212003_2 x212004_2 = some r) ∧ Aside0 (k ≤ k2) ∧ Aside0 (Kd.S k41 41 w' (Array.size (Go.World.heap w)) (fun (x : Nat) => True) (Go.Value.slice Ao27 (List.length t206) co27) t206) ∧ Aside0 ((Go.World.heap w')[gb204]? = some (Go.Obj.cells #[Go.Value.int Go.IntKind.i64 a0_0, Go.Value.int Go.IntKind.i64 a0_1, Go.Value.int Go.IntKind.i64 a0_2, Go.Value.int Go.IntKind.i64 a0_3, Go.Value.int Go.IntKind.i64 a0_4, Go.Value.int Go.IntKind.i64 a0_5, Go.Value.int Go.IntKind.i64 a0_6, Go.Value.int Go.IntKind.i64 a0_7, Go.Value.int Go.IntKind.i64 a0_8, Go.Value.int Go.IntKind.i64 a0_9, Go.Value.int Go.IntKind.i64 a0_10, Go.Value.int Go.IntKind.i64 a0_11, Go.Value.int Go.IntKind.i64 a0_12, Go.Value.int Go.IntKind.i64 a0_13, Go.Value.int Go.IntKind.i64 a0_14, Go.Value.int Go.IntKind.i64 a0_15] 23)) ∧ Aside0 ((Go.World.heap w')[gb211]? = some (Go.Obj.cells #[Go.Value.int Go.IntKind.i64 x212000_2, Go.Value.int Go.IntKind.i64 x212001_2, Go.Value.int Go.IntKind.i64 x212002_2, Go.Value.int Go.IntKind.i64 x212003_2, Go.Value.int Go.IntKind.i64 x212004_2] 44)) ∧ Aside0 (Below (Array.size (Go.World.heap w)) w w')) ∧
 a' = { tmps := #[Go.Value.agg #[Go.Value.int Go.IntKind.i64 a0_0, Go.Value.int Go.IntKind.i64 a0_1, Go.Value.int Go.IntKind.i64 a0_2, Go.Value.int Go.IntKind.i64 a0_3, Go.Value.int Go.IntKind.i64 a0_4, Go.Value.int Go.IntKind.i64 a0_5, Go.Value.int Go.IntKind.i64 a0_6, Go.Value.int Go.IntKind.i64 a0_7, Go.Value.int Go.IntKind.i64 a0_8, Go.Value.int Go.IntKind.i64 a0_9, Go.Value.int Go.IntKind.i64 a0_10, Go.Value.int Go.IntKind.i64 a0_11, Go.Value.int Go.IntKind.i64 a0_12, Go.Value.int Go.IntKind.i64 a0_13, Go.Value.int Go.IntKind.i64 a0_14, Go.Value.int Go.IntKind.i64 a0_15], Go.Value.int Go.IntKind.i64 a1, Go.Value.int Go.IntKind.i64 a2, Go.Value.pointer (some { block := gb204, off := 0 }), Go.undef, Go.undef, u6, Go.Value.slice Ao27 (List.length t206) co27, Go.Value.int Go.IntKind.i64 t209, Go.Value.pointer (some { block := gb211, off := 0 }), Go.Value.int Go.IntKind.i64 x10_2, u11, u12, u13, Go.undef, Go.undef, Go.undef, Go.undef, Go.undef, Go.undef, z2_, z3_, z4_, z5_, z6_, z7_, z8_, z9_, z10_, z11_, z12_, z13_, z14_, z15_, z16_, z17_, z18_, z19_, z20_, Go.Value.bool false, Go.Value.int Go.IntKind.i64 x10_2, Go.Value.slice Ao27 (List.length t206) co27, Go.Value.int Go.IntKind.i64 (↑(List.length t206) : Int), Go.Value.bool false, z105_, z106_, z107_, z108_, z109_, z110_, z111_, z112_, z113_, z114_, z115_, z116_, z117_, z118_, z119_, z120_, z121_, z122_, z123_, z124_, z125_, z126_, z127_, z128_, z129_, z130_, z131_, u71, u72, u73, u74, u75, u76, u77, u78, u79, u80, u81, u82, u83, u84, u85, u86, u87, u88, u89, u90, u91, u92, u93, u94, u95, u96, u97, u98, u99, u100, u101, u102, u103, u104, u105, u106, u107, u108, u109, u110, u111, u112, u113, u114, u115, u116, u117, u118, u119, u120, u121, u122, u123, u124, u125, u126, z21_, z22_, z23_, z24_, z25_, z26_, z27_, z28_, z29_, z30_, z31_, z32_, z33_, z34_, z35__1, z36__1, z37__1, z38__1, z39__1, z40__1, z41__1, z42__1, z43__1, z44__1, z45__1, z46__1, z47__1, z48__1, z49__1, z50__1, z51__1, z52__1, z53__1, z54__1, z55__1, z56__1, z57__1, z58__1, z59__1, z60__1, z61__1, z62__1, z63__1, z64__1, z65__1, z66__1, z67__1, z68__1, z69__1, z70__1, z71__1, z72__1, z73__1, z74__1, z75__1, z76__1, z77__1, z78__1, z79__1, z80__1, z81__1, z82__1, z83__1, z84__1, z85__1, z86__1, z87__1, z88__1, z89__1, z90__1, z91_, z92_, z93_, z94_, z95_, z96_, z97_, z98_, z99_, z100_], defers := [] }) →
 z110__1 k a' w') →
 ∀ (x11_3 : Int) (k3 : Nat),
 (∀ (a' : Go.Act) (w' : Go.World), Go.Handed z110__1 (k3 + 1) a' w' → z111__1 a' w') →
 Aside0 (k3 + 1 ≤ k2) →
 ∀ (ji107 : Int),
 Go.bits Go.BinOp.and Go.IntKind.i64 (a2 / 4) 3 = ji107 →
 gb204 ≠ gb211 →
 gb211 ≠ gb204 →
 ∀ (z188_ : Go.Act → Go.World → Prop),
 (∀ (a : Go.Act) (w_1 : Go.World),
 Go.Code.wp Try.prog
 (Go.Code.seq
 (Go.Code.block 3
 (Go.Code.seq (Go.Code.region 18 #[{ dst := some 12, op := Go.Op.assign (Go.Operand.const (Go.Value.int Go.IntKind.i64 1)), type := 3, pos := "more.go:44", after := #[], guard := none }] false)
 (Go.Code.block 4
 (Go.Code.loop
 (Go.Code.seq (Go.Code.seq (Go.Code.region 19 #[{ dst := some 75, op := Go.Op.move (Go.Operand.tmp 12), type := 3, pos := "more.go:44", after := #[], guard := none }, { dst := some 76, op := Go.Op.binOp Go.BinOp.leq 3 (Go.Operand.tmp 75) (Go.Operand.const (Go.Value.int Go.IntKind.i64 4)) 3, type := 4, pos := "more.go:44", after := #[{ on := 0, ground := Go.Ground.data }], guard := none }] false) (Go.Code.cond (Go.Operand.tmp 76) Go.Code.skip (Go.Code.exit 4)))
 (Go.Code.seq
 (Go.Code.block 5
 (Go.Code.seq (Go.Code.region 21 #[{ dst := some 79, op := Go.Op.move (Go.Operand.tmp 11), type := 3, pos := "more.go:45", after := #[], guard := none }, { dst := some 80, op := Go.Op.move (Go.Operand.tmp 1), type := 3, pos := "more.go:45", after := #[], guard := none }, { dst := some 81, op := Go.Op.binOp Go.BinOp.eql 3 (Go.Operand.tmp 79) (Go.Operand.tmp 80) 3, type := 4, pos := "more.go:45", after := #[{ on := 0, ground := Go.Ground.data }, { on := 1, ground := Go.Ground.data }], guard := none }, { dst := some 82, op := Go.Op.move (Go.Operand.tmp 81), type := 4, pos := "more.go:45", after := #[{ on := 2, ground := Go.Ground.data }], guard := none }, { dst := some 83, op := Go.Op.move (Go.Operand.tmp 11), type := 3, pos := "more.go:45", after := #[{ on := 3, ground := Go.Ground.guard }], guard := some (3, false) }, { dst := some 84, op := Go.Op.indexAddr 44 (Go.Operand.tmp 9) (Go.Operand.tmp 83), type := 0, pos := "more.go:45", after := #[{ on := 4, ground := Go.Ground.data }, { on := 3, ground := Go.Ground.guard }], guard := some (3, false) }, { dst := some 85, op := Go.Op.load 3 (Go.Operand.tmp 84), type := 3, pos := "more.go:45", after := #[{ on := 5, ground := Go.Ground.data }, { on := 3, ground := Go.Ground.guard }], guard := some (3, false) }, { dst := some 86, op := Go.Op.binOp Go.BinOp.gtr 3 (Go.Operand.tmp 85) (Go.Operand.const (Go.Value.int Go.IntKind.i64 0)) 3, type := 4, pos := "more.go:45", after := #[{ on := 6, ground := Go.Ground.data }, { on := 3, ground := Go.Ground.guard }], guard := some (3, false) }, { dst := some 87, op := Go.Op.pick (Go.Operand.tmp 82) (Go.Operand.const (Go.Value.bool true)) (Go.Operand.tmp 86), type := 4, pos := "more.go:45", after := #[{ on := 3, ground := Go.Ground.data }, { on := 7, ground := Go.Ground.data }], guard := none }, { dst := some 13, op := Go.Op.assign (Go.Operand.tmp 87), type := 4, pos := "more.go:45", after := #[{ on := 8, ground := Go.Ground.data }, { on := 3, ground := Go.Ground.chain }, { on := 0, ground := Go.Ground.phase }, { on := 1, ground := Go.Ground.phase }, { on := 2, ground := Go.Ground.phase }, { on := 3, ground := Go.Ground.phase }, { on := 4, ground := Go.Ground.phase }, { on := 5, ground := Go.Ground.phase }, { on := 6, ground := Go.Ground.phase }, { on := 7, ground := Go.Ground.phase }, { on := 8, ground := Go.Ground.phase }], guard := none }] false)
 (Go.Code.seq
 (Go.Code.region 22
 #[{ dst := some 88, op := Go.Op.move (Go.Operand.tmp 12), type := 3, pos := "more.go:46", after := #[], guard := none }, { dst := some 89, op := Go.Op.move (Go.Operand.tmp 1), type := 3, pos := "more.go:46", after := #[], guard := none }, { dst := some 90, op := Go.Op.binOp Go.BinOp.neq 3 (Go.Operand.tmp 88) (Go.Operand.tmp 89) 3, type := 4, pos := "more.go:46", after := #[{ on := 0, ground := Go.Ground.data }, { on := 1, ground := Go.Ground.data }], guard := none }, { dst := some 91, op := Go.Op.move (Go.Operand.tmp 90), type := 4, pos := "more.go:46", after := #[{ on := 2, ground := Go.Ground.data }], guard := none }, { dst := some 92, op := Go.Op.move (Go.Operand.tmp 13), type := 4, pos := "more.go:46", after := #[{ on := 3, ground := Go.Ground.guard }], guard := some (3, true) }, { dst := some 93, op := Go.Op.pick (Go.Operand.tmp 91) (Go.Operand.tmp 92) (Go.Operand.const (Go.Value.bool false)), type := 4, pos := "more.go:46", after := #[{ on := 3, ground := Go.Ground.data }, { on := 4, ground := Go.Ground.data }], guard := none }, { dst := some 94, op := Go.Op.move (Go.Operand.tmp 93), type := 4, pos := "more.go:46", after := #[{ on := 5, ground := Go.Ground.data }, { on := 3, ground := Go.Ground.chain }], guard := none }, { dst := some 95, op := Go.Op.move (Go.Operand.tmp 11), type := 3, pos := "more.go:46", after := #[{ on := 6, ground := Go.Ground.guard }], guard := some (6, true) }, { dst := some 96, op := Go.Op.binOp Go.BinOp.sub 3 (Go.Operand.tmp 95) (Go.Operand.const (Go.Value.int Go.IntKind.i64 1)) 3, type := 3, pos := "more.go:46", after := #[{ on := 7, ground := Go.Ground.data }, { on := 6, ground := Go.Ground.guard }], guard := some (6, true) }, { dst := some 97, op := Go.Op.move (Go.Operand.tmp 12), type := 3, pos := "more.go:46", after := #[{ on := 6, ground := Go.Ground.guard }], guard := some (6, true) }, { dst := some 98, op := Go.Op.binOp Go.BinOp.sub 3 (Go.Operand.tmp 97) (Go.Operand.const (Go.Value.int Go.IntKind.i64 1)) 3, type := 3, pos := "more.go:46", after := #[{ on := 9, ground := Go.Ground.data }, { on := 6, ground := Go.Ground.guard }], guard := some (6, true) }, { dst := some 99, op := Go.Op.indexAddr 23 (Go.Operand.tmp 3) (Go.Operand.tmp 96), type := 0, pos := "more.go:46", after := #[{ on := 8, ground := Go.Ground.data }, { on := 6, ground := Go.Ground.guard }], guard := some (6, true) }, { dst := some 100, op := Go.Op.indexAddr 22 (Go.Operand.tmp 99) (Go.Operand.tmp 98), type := 0, pos := "more.go:46", after := #[{ on := 11, ground := Go.Ground.data }, { on := 10, ground := Go.Ground.data }, { on := 6, ground := Go.Ground.guard }], guard := some (6, true) }, { dst := some 101, op := Go.Op.load 3 (Go.Operand.tmp 100), type := 3, pos := "more.go:46", after := #[{ on := 12, ground := Go.Ground.data }, { on := 6, ground := Go.Ground.guard }], guard := some (6, true) }, { dst := some 102, op := Go.Op.binOp Go.BinOp.gtr 3 (Go.Operand.tmp 101) (Go.Operand.const (Go.Value.int Go.IntKind.i64 0)) 3, type := 4, pos := "more.go:46", after := #[{ on := 13, ground := Go.Ground.data }, { on := 6, ground := Go.Ground.guard }], guard := some (6, true) }, { dst := some 103, op := Go.Op.pick (Go.Operand.tmp 94) (Go.Operand.tmp 102) (Go.Operand.const (Go.Value.bool false)), type := 4, pos := "more.go:46", after := #[{ on := 6, ground := Go.Ground.data }, { on := 14, ground := Go.Ground.data }], guard := none },
 { dst := some 104, op := Go.Op.move (Go.Operand.tmp 103), type := 4, pos := "more.go:46", after := #[{ on := 15, ground := Go.Ground.data }, { on := 6, ground := Go.Ground.chain }], guard := none }, { dst := some 105, op := Go.Op.move (Go.Operand.tmp 12), type := 3, pos := "more.go:46", after := #[{ on := 16, ground := Go.Ground.guard }], guard := some (16, true) }, { dst := some 106, op := Go.Op.indexAddr 44 (Go.Operand.tmp 9) (Go.Operand.tmp 105), type := 0, pos := "more.go:46", after := #[{ on := 17, ground := Go.Ground.data }, { on := 16, ground := Go.Ground.guard }], guard := some (16, true) }, { dst := some 107, op := Go.Op.load 3 (Go.Operand.tmp 106), type := 3, pos := "more.go:46", after := #[{ on := 18, ground := Go.Ground.data }, { on := 16, ground := Go.Ground.guard }], guard := some (16, true) }, { dst := some 108, op := Go.Op.binOp Go.BinOp.eql 3 (Go.Operand.tmp 107) (Go.Operand.const (Go.Value.int Go.IntKind.i64 0)) 3, type := 4, pos := "more.go:46", after := #[{ on := 19, ground := Go.Ground.data }, { on := 16, ground := Go.Ground.guard }], guard := some (16, true) }, { dst := some 109, op := Go.Op.move (Go.Operand.tmp 108), type := 4, pos := "more.go:46", after := #[{ on := 20, ground := Go.Ground.data }, { on := 16, ground := Go.Ground.chain }, { on := 16, ground := Go.Ground.guard }], guard := some (16, true) }, { dst := some 110, op := Go.Op.move (Go.Operand.tmp 12), type := 3, pos := "more.go:46", after := #[{ on := 21, ground := Go.Ground.guard }], guard := some (21, false) }, { dst := some 111, op := Go.Op.indexAddr 44 (Go.Operand.tmp 9) (Go.Operand.tmp 110), type := 0, pos := "more.go:46", after := #[{ on := 22, ground := Go.Ground.data }, { on := 21, ground := Go.Ground.guard }], guard := some (21, false) }, { dst := some 112, op := Go.Op.load 3 (Go.Operand.tmp 111), type := 3, pos := "more.go:46", after := #[{ on := 23, ground := Go.Ground.data }, { on := 21, ground := Go.Ground.guard }], guard := some (21, false) }, { dst := some 113, op := Go.Op.move (Go.Operand.tmp 11), type := 3, pos := "more.go:46", after := #[{ on := 21, ground := Go.Ground.guard }], guard := some (21, false) }, { dst := some 114, op := Go.Op.indexAddr 44 (Go.Operand.tmp 9) (Go.Operand.tmp 113), type := 0, pos := "more.go:46", after := #[{ on := 25, ground := Go.Ground.data }, { on := 21, ground := Go.Ground.guard }], guard := some (21, false) }, { dst := some 115, op := Go.Op.load 3 (Go.Operand.tmp 114), type := 3, pos := "more.go:46", after := #[{ on := 26, ground := Go.Ground.data }, { on := 21, ground := Go.Ground.guard }], guard := some (21, false) }, { dst := some 116, op := Go.Op.move (Go.Operand.tmp 11), type := 3, pos := "more.go:46", after := #[{ on := 21, ground := Go.Ground.guard }], guard := some (21, false) }, { dst := some 117, op := Go.Op.binOp Go.BinOp.sub 3 (Go.Operand.tmp 116) (Go.Operand.const (Go.Value.int Go.IntKind.i64 1)) 3, type := 3, pos := "more.go:46", after := #[{ on := 28, ground := Go.Ground.data }, { on := 21, ground := Go.Ground.guard }], guard := some (21, false) }, { dst := some 118, op := Go.Op.move (Go.Operand.tmp 12), type := 3, pos := "more.go:46", after := #[{ on := 21, ground := Go.Ground.guard }], guard := some (21, false) }, { dst := some 119, op := Go.Op.binOp Go.BinOp.sub 3 (Go.Operand.tmp 118) (Go.Operand.const (Go.Value.int Go.IntKind.i64 1)) 3, type := 3, pos := "more.go:46", after := #[{ on := 30, ground := Go.Ground.data }, { on := 21, ground := Go.Ground.guard }], guard := some (21, false) },
 { dst := some 120, op := Go.Op.indexAddr 23 (Go.Operand.tmp 3) (Go.Operand.tmp 117), type := 0, pos := "more.go:46", after := #[{ on := 29, ground := Go.Ground.data }, { on := 21, ground := Go.Ground.guard }], guard := some (21, false) }, { dst := some 121, op := Go.Op.indexAddr 22 (Go.Operand.tmp 120) (Go.Operand.tmp 119), type := 0, pos := "more.go:46", after := #[{ on := 32, ground := Go.Ground.data }, { on := 31, ground := Go.Ground.data }, { on := 21, ground := Go.Ground.guard }], guard := some (21, false) }, { dst := some 122, op := Go.Op.load 3 (Go.Operand.tmp 121), type := 3, pos := "more.go:46", after := #[{ on := 33, ground := Go.Ground.data }, { on := 21, ground := Go.Ground.guard }], guard := some (21, false) }, { dst := some 123, op := Go.Op.binOp Go.BinOp.add 3 (Go.Operand.tmp 115) (Go.Operand.tmp 122) 3, type := 3, pos := "more.go:46", after := #[{ on := 27, ground := Go.Ground.data }, { on := 34, ground := Go.Ground.data }, { on := 21, ground := Go.Ground.guard }], guard := some (21, false) }, { dst := some 124, op := Go.Op.binOp Go.BinOp.gtr 3 (Go.Operand.tmp 112) (Go.Operand.tmp 123) 3, type := 4, pos := "more.go:46", after := #[{ on := 24, ground := Go.Ground.data }, { on := 35, ground := Go.Ground.data }, { on := 21, ground := Go.Ground.guard }], guard := some (21, false) }, { dst := some 125, op := Go.Op.pick (Go.Operand.tmp 109) (Go.Operand.const (Go.Value.bool true)) (Go.Operand.tmp 124), type := 4, pos := "more.go:46", after := #[{ on := 21, ground := Go.Ground.data }, { on := 36, ground := Go.Ground.data }, { on := 16, ground := Go.Ground.guard }], guard := some (16, true) }, { dst := some 126, op := Go.Op.pick (Go.Operand.tmp 104) (Go.Operand.tmp 125) (Go.Operand.const (Go.Value.bool false)), type := 4, pos := "more.go:46", after := #[{ on := 16, ground := Go.Ground.data }, { on := 37, ground := Go.Ground.data }], guard := none }]
 true)
 (Go.Code.cond (Go.Operand.tmp 126) (Go.Code.seq (Go.Code.region 23 #[{ dst := some 6, op := Go.Op.assign (Go.Operand.const (Go.Value.bool false)), type := 4, pos := "more.go:47", after := #[], guard := none }] false) Go.Code.ret) Go.Code.skip))))
 (Go.Code.region 20 #[{ dst := some 77, op := Go.Op.move (Go.Operand.tmp 12), type := 3, pos := "more.go:44", after := #[], guard := none }, { dst := some 78, op := Go.Op.binOp Go.BinOp.add 3 (Go.Operand.tmp 77) (Go.Operand.const (Go.Value.int Go.IntKind.i64 1)) 3, type := 3, pos := "more.go:44", after := #[{ on := 0, ground := Go.Ground.data }], guard := none }, { dst := some 12, op := Go.Op.assign (Go.Operand.tmp 78), type := 3, pos := "more.go:44", after := #[{ on := 1, ground := Go.Ground.data }, { on := 0, ground := Go.Ground.phase }, { on := 1, ground := Go.Ground.phase }], guard := none }] false)))))))
 (Go.Code.region 17 #[{ dst := some 73, op := Go.Op.move (Go.Operand.tmp 11), type := 3, pos := "more.go:43", after := #[], guard := none }, { dst := some 74, op := Go.Op.binOp Go.BinOp.add 3 (Go.Operand.tmp 73) (Go.Operand.const (Go.Value.int Go.IntKind.i64 1)) 3, type := 3, pos := "more.go:43", after := #[{ on := 0, ground := Go.Ground.data }], guard := none }, { dst := some 11, op := Go.Op.assign (Go.Operand.tmp 74), type := 3, pos := "more.go:43", after := #[{ on := 1, ground := Go.Ground.data }, { on := 0, ground := Go.Ground.phase }, { on := 1, ground := Go.Ground.phase }], guard := none }] false))
 (Go.Exit.then z111__1 (Go.Exit.inBlock 2 (Go.Exit.then z108__1 (Go.bodyPost Try.prog Try.f6 fun (e : Go.Ending) (w' : Go.World) => e = Go.Ending.returned (Go.Value.bool r) ∧ Below (Array.size (Go.World.heap w)) w w')))) a w_1 →
 z188_ a w_1) →
 ∀ (gb216 : Nat) (w113 : Go.World),
 Aside0 (Array.size (Go.World.heap w) ≤ gb216) →
 Aside0 (Array.size (Go.World.heap w) ≤ gb216) →
 Aside0 (gb204 ≠ gb216) →
 Aside0 (gb216 ≠ gb204) →
 Aside0 (gb211 ≠ gb216) →
 Aside0 (gb216 ≠ gb211) →
 gb216 ≠ gb204 →
 gb204 ≠ gb216 →
 gb216 ≠ gb211 →
 gb211 ≠ gb216 →
 ∀ (w117 : Go.World),
 Aside0 (Kd.S k41 41 w117 (Array.size (Go.World.heap w)) (fun (x : Nat) => True) (Go.Value.slice Ao27 (List.length t206) co27) t206) →
 Aside0 ((Go.World.heap w117)[gb204]? = some (Go.Obj.cells #[Go.Value.int Go.IntKind.i64 a0_0, Go.Value.int Go.IntKind.i64 a0_1, Go.Value.int Go.IntKind.i64 a0_2, Go.Value.int Go.IntKind.i64 a0_3, Go.Value.int Go.IntKind.i64 a0_4, Go.Value.int Go.IntKind.i64 a0_5, Go.Value.int Go.IntKind.i64 a0_6, Go.Value.int Go.IntKind.i64 a0_7, Go.Value.int Go.IntKind.i64 a0_8, Go.Value.int Go.IntKind.i64 a0_9, Go.Value.int Go.IntKind.i64 a0_10, Go.Value.int Go.IntKind.i64 a0_11, Go.Value.int Go.IntKind.i64 a0_12, Go.Value.int Go.IntKind.i64 a0_13, Go.Value.int Go.IntKind.i64 a0_14, Go.Value.int Go.IntKind.i64 a0_15] 23)) →
 Aside0 ((Go.World.heap w117)[gb211]? = some (Go.Obj.cells #[Go.Value.int Go.IntKind.i64 x212000_2, Go.Value.int Go.IntKind.i64 x212001_2, Go.Value.int Go.IntKind.i64 x212002_2, Go.Value.int Go.IntKind.i64 x212003_2, Go.Value.int Go.IntKind.i64 x212004_2] 44)) →
 Aside0 ((Go.World.heap w117)[gb216]? = some (Go.Obj.cells #[Go.Value.int Go.IntKind.i64 a0_0, Go.Value.int Go.IntKind.i64 a0_1, Go.Value.int Go.IntKind.i64 a0_2, Go.Value.int Go.IntKind.i64 a0_3, Go.Value.int Go.IntKind.i64 a0_4, Go.Value.int Go.IntKind.i64 a0_5, Go.Value.int Go.IntKind.i64 a0_6, Go.Value.int Go.IntKind.i64 a0_7, Go.Value.int Go.IntKind.i64 a0_8, Go.Value.int Go.IntKind.i64 a0_9, Go.Value.int Go.IntKind.i64 a0_10, Go.Value.int Go.IntKind.i64 a0_11, Go.Value.int Go.IntKind.i64 a0_12, Go.Value.int Go.IntKind.i64 a0_13, Go.Value.int Go.IntKind.i64 a0_14, Go.Value.int Go.IntKind.i64 a0_15] 23)) →
 Aside0 (Below (Array.size (Go.World.heap w)) w w117) →
 ∀ (z195_ : Go.Act → Go.World → Prop),
 (∀ (a : Go.Act) (w_1 : Go.World),
 Go.Code.wp Try.prog
 (Go.Code.seq (Go.Code.region 28 #[{ dst := some 148, op := Go.Op.load 23 (Go.Operand.tmp 14), type := 23, pos := "more.go:56", after := #[], guard := none }, { dst := some 149, op := Go.Op.move (Go.Operand.tmp 1), type := 3, pos := "more.go:56", after := #[], guard := none }, { dst := some 150, op := Go.Op.call { callee := Go.Callee.value (Go.Operand.func 13), args := #[Go.Operand.tmp 148, Go.Operand.tmp 149], argTypes := #[23, 3] }, type := 26, pos := "more.go:56", after := #[{ on := 0, ground := Go.Ground.data }, { on := 1, ground := Go.Ground.data }], guard := none }, { dst := some 147, op := Go.Op.move (Go.Operand.tmp 150), type := 26, pos := "more.go:56", after := #[{ on := 2, ground := Go.Ground.data }], guard := none }, { dst := some 151, op := Go.Op.extract (Go.Operand.tmp 147) 0, type := 24, pos := "more.go:56", after := #[{ on := 3, ground := Go.Ground.data }], guard := none }, { dst := some 152, op := Go.Op.extract (Go.Operand.tmp 147) 1, type := 25, pos := "more.go:56", after := #[{ on := 3, ground := Go.Ground.data }, { on := 6, ground := Go.Ground.gcOnly Go.Departure.lateStores }], guard := none }, { dst := some 17, op := Go.Op.assign (Go.Operand.tmp 151), type := 24, pos := "more.go:56", after := #[{ on := 4, ground := Go.Ground.data }, { on := 2, ground := Go.Ground.chain }, { on := 0, ground := Go.Ground.phase }, { on := 1, ground := Go.Ground.phase }, { on := 2, ground := Go.Ground.phase }, { on := 3, ground := Go.Ground.phase }, { on := 4, ground := Go.Ground.phase }, { on := 5, ground := Go.Ground.textOnly Go.Departure.lateStores }], guard := none }, { dst := some 18, op := Go.Op.assign (Go.Operand.tmp 152), type := 25, pos := "more.go:56", after := #[{ on := 5, ground := Go.Ground.data }, { on := 6, ground := Go.Ground.chain }, { on := 0, ground := Go.Ground.phase }, { on := 1, ground := Go.Ground.phase }, { on := 2, ground := Go.Ground.phase }, { on := 3, ground := Go.Ground.phase }, { on := 4, ground := Go.Ground.phase }, { on := 5, ground := Go.Ground.phase }, { on := 6, ground := Go.Ground.phase }], guard := none }] false)
 (Go.Code.seq (Go.Code.seq (Go.Code.region 29 #[{ dst := some 153, op := Go.Op.move (Go.Operand.tmp 18), type := 25, pos := "more.go:57", after := #[], guard := none }, { dst := some 154, op := Go.Op.call { callee := Go.Callee.value (Go.Operand.func 16), args := #[Go.Operand.tmp 153], argTypes := #[25] }, type := 3, pos := "more.go:57", after := #[{ on := 0, ground := Go.Ground.data }], guard := none }, { dst := some 155, op := Go.Op.binOp Go.BinOp.neq 3 (Go.Operand.tmp 154) (Go.Operand.const (Go.Value.int Go.IntKind.i64 0)) 3, type := 4, pos := "more.go:57", after := #[{ on := 1, ground := Go.Ground.data }], guard := none }, { dst := some 156, op := Go.Op.move (Go.Operand.tmp 155), type := 4, pos := "more.go:57", after := #[{ on := 2, ground := Go.Ground.data }, { on := 1, ground := Go.Ground.chain }], guard := none }, { dst := some 157, op := Go.Op.move (Go.Operand.tmp 17), type := 24, pos := "more.go:57", after := #[{ on := 3, ground := Go.Ground.guard }], guard := some (3, false) }, { dst := some 158, op := Go.Op.call { callee := Go.Callee.builtin Go.Builtin.len, args := #[Go.Operand.tmp 157], argTypes := #[24] }, type := 3, pos := "more.go:57", after := #[{ on := 4, ground := Go.Ground.data }, { on := 3, ground := Go.Ground.guard }], guard := some (3, false) }, { dst := some 159, op := Go.Op.move (Go.Operand.tmp 7), type := 24, pos := "more.go:57", after := #[{ on := 3, ground := Go.Ground.guard }], guard := some (3, false) }, { dst := some 160, op := Go.Op.call { callee := Go.Callee.builtin Go.Builtin.len, args := #[Go.Operand.tmp 159], argTypes := #[24] }, type := 3, pos := "more.go:57", after := #[{ on := 6, ground := Go.Ground.data }, { on := 3, ground := Go.Ground.guard }], guard := some (3, false) }, { dst := some 161, op := Go.Op.binOp Go.BinOp.neq 3 (Go.Operand.tmp 158) (Go.Operand.tmp 160) 3, type := 4, pos := "more.go:57", after := #[{ on := 5, ground := Go.Ground.data }, { on := 7, ground := Go.Ground.data }, { on := 3, ground := Go.Ground.guard }], guard := some (3, false) }, { dst := some 162, op := Go.Op.pick (Go.Operand.tmp 156) (Go.Operand.const (Go.Value.bool true)) (Go.Operand.tmp 161), type := 4, pos := "more.go:57", after := #[{ on := 3, ground := Go.Ground.data }, { on := 8, ground := Go.Ground.data }], guard := none }] false) (Go.Code.cond (Go.Operand.tmp 162) (Go.Code.seq (Go.Code.region 30 #[{ dst := some 6, op := Go.Op.assign (Go.Operand.const (Go.Value.bool false)), type := 4, pos := "more.go:58", after := #[], guard := none }] false) Go.Code.ret) Go.Code.skip))
 (Go.Code.seq
 (Go.Code.seq (Go.Code.region 31 #[{ dst := some 19, op := Go.Op.assign (Go.Operand.const (Go.Value.int Go.IntKind.i64 0)), type := 3, pos := "more.go:60", after := #[], guard := none }] false)
 (Go.Code.block 6
 (Go.Code.loop
 (Go.Code.seq (Go.Code.seq (Go.Code.region 32 #[{ dst := some 163, op := Go.Op.move (Go.Operand.tmp 19), type := 3, pos := "more.go:60", after := #[], guard := none }, { dst := some 164, op := Go.Op.move (Go.Operand.tmp 7), type := 24, pos := "more.go:60", after := #[], guard := none }, { dst := some 165, op := Go.Op.call { callee := Go.Callee.builtin Go.Builtin.len, args := #[Go.Operand.tmp 164], argTypes := #[24] }, type := 3, pos := "more.go:60", after := #[{ on := 1, ground := Go.Ground.data }], guard := none }, { dst := some 166, op := Go.Op.binOp Go.BinOp.lss 3 (Go.Operand.tmp 163) (Go.Operand.tmp 165) 3, type := 4, pos := "more.go:60", after := #[{ on := 0, ground := Go.Ground.data }, { on := 2, ground := Go.Ground.data }], guard := none }] false) (Go.Code.cond (Go.Operand.tmp 166) Go.Code.skip (Go.Code.exit 6)))
 (Go.Code.seq
 (Go.Code.block 7
 (Go.Code.seq
 (Go.Code.region 34
 #[{ dst := some 169, op := Go.Op.move (Go.Operand.tmp 17), type := 24, pos := "more.go:61", after := #[], guard := none }, { dst := some 170, op := Go.Op.move (Go.Operand.tmp 19), type := 3, pos := "more.go:61", after := #[], guard := none }, { dst := some 171, op := Go.Op.indexAddr 24 (Go.Operand.tmp 169) (Go.Operand.tmp 170), type := 0, pos := "more.go:61", after := #[{ on := 0, ground := Go.Ground.data }, { on := 1, ground := Go.Ground.data }], guard := none }, { dst := some 172, op := Go.Op.fieldAddr 41 (Go.Operand.tmp 171) 0, type := 0, pos := "more.go:61", after := #[{ on := 2, ground := Go.Ground.data }], guard := none }, { dst := some 173, op := Go.Op.load 3 (Go.Operand.tmp 172), type := 3, pos := "more.go:61", after := #[{ on := 3, ground := Go.Ground.data }], guard := none }, { dst := some 174, op := Go.Op.move (Go.Operand.tmp 7), type := 24, pos := "more.go:61", after := #[], guard := none }, { dst := some 175, op := Go.Op.move (Go.Operand.tmp 19), type := 3, pos := "more.go:61", after := #[], guard := none }, { dst := some 176, op := Go.Op.indexAddr 24 (Go.Operand.tmp 174) (Go.Operand.tmp 175), type := 0, pos := "more.go:61", after := #[{ on := 5, ground := Go.Ground.data }, { on := 6, ground := Go.Ground.data }], guard := none }, { dst := some 177, op := Go.Op.fieldAddr 41 (Go.Operand.tmp 176) 0, type := 0, pos := "more.go:61", after := #[{ on := 7, ground := Go.Ground.data }], guard := none }, { dst := some 178, op := Go.Op.load 3 (Go.Operand.tmp 177), type := 3, pos := "more.go:61", after := #[{ on := 8, ground := Go.Ground.data }], guard := none }, { dst := some 179, op := Go.Op.binOp Go.BinOp.neq 3 (Go.Operand.tmp 173) (Go.Operand.tmp 178) 3, type := 4, pos := "more.go:61", after := #[{ on := 4, ground := Go.Ground.data }, { on := 9, ground := Go.Ground.data }], guard := none }, { dst := some 180, op := Go.Op.move (Go.Operand.tmp 179), type := 4, pos := "more.go:61", after := #[{ on := 10, ground := Go.Ground.data }], guard := none }, { dst := some 181, op := Go.Op.move (Go.Operand.tmp 17), type := 24, pos := "more.go:61", after := #[{ on := 11, ground := Go.Ground.guard }], guard := some (11, false) }, { dst := some 182, op := Go.Op.move (Go.Operand.tmp 19), type := 3, pos := "more.go:61", after := #[{ on := 11, ground := Go.Ground.guard }], guard := some (11, false) }, { dst := some 183, op := Go.Op.indexAddr 24 (Go.Operand.tmp 181) (Go.Operand.tmp 182), type := 0, pos := "more.go:61", after := #[{ on := 12, ground := Go.Ground.data }, { on := 13, ground := Go.Ground.data }, { on := 11, ground := Go.Ground.guard }], guard := some (11, false) }, { dst := some 184, op := Go.Op.fieldAddr 41 (Go.Operand.tmp 183) 1, type := 0, pos := "more.go:61", after := #[{ on := 14, ground := Go.Ground.data }, { on := 11, ground := Go.Ground.guard }], guard := some (11, false) }, { dst := some 185, op := Go.Op.load 3 (Go.Operand.tmp 184), type := 3, pos := "more.go:61", after := #[{ on := 15, ground := Go.Ground.data }, { on := 11, ground := Go.Ground.guard }], guard := some (11, false) }, { dst := some 186, op := Go.Op.move (Go.Operand.tmp 7), type := 24, pos := "more.go:61", after := #[{ on := 11, ground := Go.Ground.guard }], guard := some (11, false) }, { dst := some 187, op := Go.Op.move (Go.Operand.tmp 19), type := 3, pos := "more.go:61", after := #[{ on := 11, ground := Go.Ground.guard }], guard := some (11, false) },
 { dst := some 188, op := Go.Op.indexAddr 24 (Go.Operand.tmp 186) (Go.Operand.tmp 187), type := 0, pos := "more.go:61", after := #[{ on := 17, ground := Go.Ground.data }, { on := 18, ground := Go.Ground.data }, { on := 11, ground := Go.Ground.guard }], guard := some (11, false) }, { dst := some 189, op := Go.Op.fieldAddr 41 (Go.Operand.tmp 188) 1, type := 0, pos := "more.go:61", after := #[{ on := 19, ground := Go.Ground.data }, { on := 11, ground := Go.Ground.guard }], guard := some (11, false) }, { dst := some 190, op := Go.Op.load 3 (Go.Operand.tmp 189), type := 3, pos := "more.go:61", after := #[{ on := 20, ground := Go.Ground.data }, { on := 11, ground := Go.Ground.guard }], guard := some (11, false) }, { dst := some 191, op := Go.Op.binOp Go.BinOp.gtr 3 (Go.Operand.tmp 185) (Go.Operand.tmp 190) 3, type := 4, pos := "more.go:61", after := #[{ on := 16, ground := Go.Ground.data }, { on := 21, ground := Go.Ground.data }, { on := 11, ground := Go.Ground.guard }], guard := some (11, false) }, { dst := some 192, op := Go.Op.pick (Go.Operand.tmp 180) (Go.Operand.const (Go.Value.bool true)) (Go.Operand.tmp 191), type := 4, pos := "more.go:61", after := #[{ on := 11, ground := Go.Ground.data }, { on := 22, ground := Go.Ground.data }], guard := none }, { dst := some 193, op := Go.Op.move (Go.Operand.tmp 192), type := 4, pos := "more.go:61", after := #[{ on := 23, ground := Go.Ground.data }, { on := 11, ground := Go.Ground.chain }], guard := none }, { dst := some 194, op := Go.Op.move (Go.Operand.tmp 17), type := 24, pos := "more.go:61", after := #[{ on := 24, ground := Go.Ground.guard }], guard := some (24, false) }, { dst := some 195, op := Go.Op.move (Go.Operand.tmp 19), type := 3, pos := "more.go:61", after := #[{ on := 24, ground := Go.Ground.guard }], guard := some (24, false) }, { dst := some 196, op := Go.Op.indexAddr 24 (Go.Operand.tmp 194) (Go.Operand.tmp 195), type := 0, pos := "more.go:61", after := #[{ on := 25, ground := Go.Ground.data }, { on := 26, ground := Go.Ground.data }, { on := 24, ground := Go.Ground.guard }], guard := some (24, false) }, { dst := some 197, op := Go.Op.fieldAddr 41 (Go.Operand.tmp 196) 1, type := 0, pos := "more.go:61", after := #[{ on := 27, ground := Go.Ground.data }, { on := 24, ground := Go.Ground.guard }], guard := some (24, false) }, { dst := some 198, op := Go.Op.load 3 (Go.Operand.tmp 197), type := 3, pos := "more.go:61", after := #[{ on := 28, ground := Go.Ground.data }, { on := 24, ground := Go.Ground.guard }], guard := some (24, false) }, { dst := some 199, op := Go.Op.move (Go.Operand.tmp 7), type := 24, pos := "more.go:61", after := #[{ on := 24, ground := Go.Ground.guard }], guard := some (24, false) }, { dst := some 200, op := Go.Op.move (Go.Operand.tmp 19), type := 3, pos := "more.go:61", after := #[{ on := 24, ground := Go.Ground.guard }], guard := some (24, false) }, { dst := some 201, op := Go.Op.indexAddr 24 (Go.Operand.tmp 199) (Go.Operand.tmp 200), type := 0, pos := "more.go:61", after := #[{ on := 30, ground := Go.Ground.data }, { on := 31, ground := Go.Ground.data }, { on := 24, ground := Go.Ground.guard }], guard := some (24, false) }, { dst := some 202, op := Go.Op.fieldAddr 41 (Go.Operand.tmp 201) 1, type := 0, pos := "more.go:61", after := #[{ on := 32, ground := Go.Ground.data }, { on := 24, ground := Go.Ground.guard }], guard := some (24, false) },
 { dst := some 203, op := Go.Op.load 3 (Go.Operand.tmp 202), type := 3, pos := "more.go:61", after := #[{ on := 33, ground := Go.Ground.data }, { on := 24, ground := Go.Ground.guard }], guard := some (24, false) }, { dst := some 204, op := Go.Op.binOp Go.BinOp.sub 3 (Go.Operand.tmp 203) (Go.Operand.const (Go.Value.int Go.IntKind.i64 1)) 3, type := 3, pos := "more.go:61", after := #[{ on := 34, ground := Go.Ground.data }, { on := 24, ground := Go.Ground.guard }], guard := some (24, false) }, { dst := some 205, op := Go.Op.binOp Go.BinOp.lss 3 (Go.Operand.tmp 198) (Go.Operand.tmp 204) 3, type := 4, pos := "more.go:61", after := #[{ on := 29, ground := Go.Ground.data }, { on := 35, ground := Go.Ground.data }, { on := 24, ground := Go.Ground.guard }], guard := some (24, false) }, { dst := some 206, op := Go.Op.pick (Go.Operand.tmp 193) (Go.Operand.const (Go.Value.bool true)) (Go.Operand.tmp 205), type := 4, pos := "more.go:61", after := #[{ on := 24, ground := Go.Ground.data }, { on := 36, ground := Go.Ground.data }], guard := none }]
 true)
 (Go.Code.cond (Go.Operand.tmp 206) (Go.Code.seq (Go.Code.region 35 #[{ dst := some 6, op := Go.Op.assign (Go.Operand.const (Go.Value.bool false)), type := 4, pos := "more.go:62", after := #[], guard := none }] false) Go.Code.ret) Go.Code.skip)))
 (Go.Code.region 33 #[{ dst := some 167, op := Go.Op.move (Go.Operand.tmp 19), type := 3, pos := "more.go:60", after := #[], guard := none }, { dst := some 168, op := Go.Op.binOp Go.BinOp.add 3 (Go.Operand.tmp 167) (Go.Operand.const (Go.Value.int Go.IntKind.i64 1)) 3, type := 3, pos := "more.go:60", after := #[{ on := 0, ground := Go.Ground.data }], guard := none }, { dst := some 19, op := Go.Op.assign (Go.Operand.tmp 168), type := 3, pos := "more.go:60", after := #[{ on := 1, ground := Go.Ground.data }, { on := 0, ground := Go.Ground.phase }, { on := 1, ground := Go.Ground.phase }], guard := none }] false))))))
 (Go.Code.seq (Go.Code.region 36 #[{ dst := some 6, op := Go.Op.assign (Go.Operand.const (Go.Value.bool true)), type := 4, pos := "more.go:65", after := #[], guard := none }] false) Go.Code.ret))))
 (Go.bodyPost Try.prog Try.f6 fun (e : Go.Ending) (w' : Go.World) => e = Go.Ending.returned (Go.Value.bool r) ∧ Below (Array.size (Go.World.heap w)) w w') a w_1 →
 z195_ a w_1) →
 ∀ (wc : Go.World) (u20 u21 u22 u23 u24 u25 u26 u27 u28 u29 u30 u31 u32 u33 u34 u35 u36 u37 u38 u39 u40 u41 u42 u43 u44 u45 u46 u47 u48 u49 u50 u51 u52 u53 u54 u55 u56 u57 u58 u59 u60 u61 u62 u63 u64 u65 u66 u67 u68 u69 u70 u71 u72 u73 u74 u75 u76 u77 u78 u79 u80 u81 u82 u83 u84 u85 u86 u87 u88 u89 u90 u91 u92 u93 u94 u95 u96 u97 u98 u99 u100 u101 u102 u103 u104 u105 u106 u107 u108 u109 u110 u111 u112 u113 u114 u115 u116 u117 u118 u119 u120 u121 u122 u123 u124 u125 u126 u127 u128 u129 u130 u131 u132 u133 u134 u135 u136 u137 u138 u139 u140 u141 u142 u143 u144 u145 u146 u147 u148 u149 u150 u151 u152 u153 u154 u155 u156 u157 u158 u159 u160 u161 u162 u163 u164 u165 u166 u167 u168 u169 u170 u171 u172 u173 u174 u175 u176 u177 u178 u179 u180 u181 u182 u183 u184 u185 u186 u187 u188 u189 u190 u191 u192 u193 u194 u195 u196 u197 u198 u199 u200 u201 u202 u203 u204 u205 u206 : Go.Value) (kq : Nat) (x217000_109 x217001_109 x217002_109 x217003_109 x217004_109 x217005_109 x217006_109 x217007_109 x217008_109 x217009_109 x217010_109 x217011_109 x217012_109 x217013_109 x217014_109 x217015_109 : Int),
 Aside0 (watchwordlaw21_PathsTriangle.j4 kq a1 t206 x217000_109 x217001_109 x217002_109 x217003_109 x217004_109 x217005_109 x217006_109 x217007_109 x217008_109 x217009_109 x217010_109 x217011_109 x217012_109 x217013_109 x217014_109 x217015_109 = some r) →
 Aside0 (kq ≤ k3) →
 Aside0 (Kd.S k41 41 wc (Array.size (Go.World.heap w)) (fun (x : Nat) => True) (Go.Value.slice Ao27 (List.length t206) co27) t206) →
 Aside0 ((Go.World.heap wc)[gb204]? = some (Go.Obj.cells #[Go.Value.int Go.IntKind.i64 a0_0, Go.Value.int Go.IntKind.i64 a0_1, Go.Value.int Go.IntKind.i64 a0_2, Go.Value.int Go.IntKind.i64 a0_3, Go.Value.int Go.IntKind.i64 a0_4, Go.Value.int Go.IntKind.i64 a0_5, Go.Value.int Go.IntKind.i64 a0_6, Go.Value.int Go.IntKind.i64 a0_7, Go.Value.int Go.IntKind.i64 a0_8, Go.Value.int Go.IntKind.i64 a0_9, Go.Value.int Go.IntKind.i64 a0_10, Go.Value.int Go.IntKind.i64 a0_11, Go.Value.int Go.IntKind.i64 a0_12, Go.Value.int Go.IntKind.i64 a0_13, Go.Value.int Go.IntKind.i64 a0_14, Go.Value.int Go.IntKind.i64 a0_15] 23)) →
 Aside0 ((Go.World.heap wc)[gb211]? = some (Go.Obj.cells #[Go.Value.int Go.IntKind.i64 x212000_2, Go.Value.int Go.IntKind.i64 x212001_2, Go.Value.int Go.IntKind.i64 x212002_2, Go.Value.int Go.IntKind.i64 x212003_2, Go.Value.int Go.IntKind.i64 x212004_2] 44)) → Aside0 ((Go.World.heap wc)[gb216]? = some (Go.Obj.cells #[Go.Value.int Go.IntKind.i64 x217000_109, Go.Value.int Go.IntKind.i64 x217001_109, Go.Value.int Go.IntKind.i64 x217002_109, Go.Value.int Go.IntKind.i64 x217003_109, Go.Value.int Go.IntKind.i64 x217004_109, Go.Value.int Go.IntKind.i64 x217005_109, Go.Value.int Go.IntKind.i64 x217006_109, Go.Value.int Go.IntKind.i64 x217007_109, Go.Value.int Go.IntKind.i64 x217008_109, Go.Value.int Go.IntKind.i64 x217009_109, Go.Value.int Go.IntKind.i64 x217010_109, Go.Value.int Go.IntKind.i64 x217011_109, Go.Value.int Go.IntKind.i64 x217012_109, Go.Value.int Go.IntKind.i64 x217013_109, Go.Value.int Go.IntKind.i64 x217014_109, Go.Value.int Go.IntKind.i64 x217015_109] 23)) → Aside0 (Below (Array.size (Go.World.heap w)) w wc) → z195_ { tmps := #[Go.Value.agg #[Go.Value.int Go.IntKind.i64 a0_0, Go.Value.int Go.IntKind.i64 a0_1, Go.Value.int Go.IntKind.i64 a0_2, Go.Value.int Go.IntKind.i64 a0_3, Go.Value.int Go.IntKind.i64 a0_4, Go.Value.int Go.IntKind.i64 a0_5, Go.Value.int Go.IntKind.i64 a0_6, Go.Value.int Go.IntKind.i64 a0_7, Go.Value.int Go.IntKind.i64 a0_8, Go.Value.int Go.IntKind.i64 a0_9, Go.Value.int Go.IntKind.i64 a0_10, Go.Value.int Go.IntKind.i64 a0_11, Go.Value.int Go.IntKind.i64 a0_12, Go.Value.int Go.IntKind.i64 a0_13, Go.Value.int Go.IntKind.i64 a0_14, Go.Value.int Go.IntKind.i64 a0_15], Go.Value.int Go.IntKind.i64 a1, Go.Value.int Go.IntKind.i64 a2, Go.Value.pointer (some { block := gb204, off := 0 }), Go.undef, Go.undef, u6, Go.Value.slice Ao27 (List.length t206) co27, Go.Value.int Go.IntKind.i64 t209, Go.Value.pointer (some { block := gb211, off := 0 }), Go.Value.int Go.IntKind.i64 x10_2, Go.Value.int Go.IntKind.i64 x11_3, u12, u13, Go.Value.pointer (some { block := gb216, off := 0 }), Go.Value.int Go.IntKind.i64 (Go.bits Go.BinOp.and Go.IntKind.i64 a2 3), Go.Value.int Go.IntKind.i64 ji107, Go.undef, Go.undef, Go.undef, u20, u21, u22, u23, u24, u25, u26, u27, u28, u29, u30, u31, u32, u33, u34, u35, u36, u37, u38, u39, u40, u41, u42, u43, u44, u45, u46, u47, u48, u49, u50, u51, u52, u53, u54, u55, u56, u57, u58, u59, u60, u61, u62, u63, u64, u65, u66, u67, u68, u69, u70, u71, u72, u73, u74, u75, u76, u77, u78, u79, u80, u81, u82, u83, u84, u85, u86, u87, u88, u89, u90, u91, u92, u93, u94, u95, u96, u97, u98, u99, u100, u101, u102, u103, u104, u105, u106, u107, u108, u109, u110, u111, u112, u113, u114, u115, u116, u117, u118, u119, u120, u121, u122, u123, u124, u125, u126, u127, u128, u129, u130, u131, u132, u133, u134, u135, u136, u137, u138, u139, u140, u141, u142, u143, u144, u145, u146, u147, u148, u149, u150, u151, u152, u153, u154, u155, u156, u157, u158, u159, u160, u161, u162, u163, u164, u165, u166, u167, u168, u169, u170, u171, u172, u173, u174, u175, u176, u177, u178, u179, u180, u181, u182, u183, u184, u185, u186, u187, u188, u189, u190, u191, u192, u193, u194, u195, u196, u197, u198, u199, u200, u201, u202, u203, u204, u205, u206], defers := [] } wc := by
 intro k a0_0 a0_1 a0_2 a0_3 a0_4 a0_5 a0_6 a0_7 a0_8 a0_9 a0_10 a0_11 a0_12 a0_13 a0_14 a0_15 a1 a2 r w hu23 hu44 HT A4 t206 t209 A6 t210 A7 gb204 w10 GW204 GE204 w11 w13 z2_ z3_ nd z1_ z2_ z3_ z4_ z5_ z6_ z7_ z8_ z9_ z10_ z11_ z12_ z13_ z14_ z15_ z16_ z17_ z18_ z19_ z20_ z4_ z5_ z6_ z7_ z8_ z9_ z10_ z11_ z12_ z13_ z14_ z15_ z16_ z17_ z18_ z19_ z20_ z21_ z22_ z23_ z24_ z25_ z26_ z27_ z28_ z29_ z30_ z31_ z32_ z33_ z34_ z35_ z36_ z37_ z38_ z39_ z40_ z41_ z42_ z43_ z44_ z45_ z46_ z47_ z48_ z49_ z50_ z51_ z52_ z53_ z54_ z55_ z56_ z57_ z58_ z59_ z60_ z61_ z62_ z63_ z64_ z65_ z66_ z67_ z68_ z69_ z70_ z71_ z72_ z73_ z74_ z75_ z76_ z77_ z78_ z79_ z80_ z81_ z82_ z83_ z84_ z85_ z86_ z87_ z88_ z89_ z90_ z21_ z22_ z23_ z24_ z25_ z26_ z27_ z28_ z29_ z30_ z31_ z32_ z33_ z34_ z35_ z36_ z37_ z38_ z39_ z40_ z41_ z42_ z43_ z44_ z45_ z46_ z47_ z48_ z49_ z50_ z51_ z52_ z53_ z54_ z55_ z56_ z57_ z58_ z59_ z60_ z61_ z62_ z63_ z64_ z65_ z66_ z67_ z68_ z69_ z70_ z71_ z72_ z73_ z74_ z75_ z76_ z77_ z78_ z79_ z80_ z81_ z82_ z83_ z84_ z85_ z86_ z87_ z88_ z89_ z90_ z91_ z92_ z93_ z94_ z95_ z96_ z97_ z98_ z99_ z100_ kj8 HJ8 gb211 w16 z91_ z92_ z93_ GW211 GE211 NB204_211 NB211_204 z94_ z95_ z96_ z101_ z102_ z103_ z104_ z105_ z106_ z107_ z108_ z109_ z110_ z111_ z112_ z113_ z114_ z115_ z116_ z117_ z118_ z119_ z120_ z121_ z122_ z123_ z124_ z125_ z126_ z127_ z128_ z129_ z130_ z131_ z97_ z98_ x10_2 x212000_2 x212001_2 x212002_2 x212003_2 x212004_2 z99_ z100_ z101_ k2 z102_ HK2 Ao27 co27 HO208 z103_ z104_ z105_ z106_ z107_ z108_ wr u6 u12 u13 z132_ z133_ z134_ z135_ z136_ z137_ z138_ z139_ z140_ z141_ z142_ z143_ z144_ z145_ z146_ z147_ z148_ z149_ z150_ z151_ z152_ z153_ z154_ z155_ z156_ z157_ z158_ z159_ z160_ z161_ z162_ z163_ z164_ z165_ z166_ z167_ z168_ z169_ z170_ z171_ z172_ z173_ z174_ z175_ z176_ z177_ z178_ z179_ z180_ z181_ z182_ z183_ z184_ z185_ z186_ z187_ z110_ z111_ z112_ x11_3 k3 z113_ HK3 ji107 hji107 hnb111 hnc111 z188_ z189_ gb216 w113 GW216 GE216 NB204_216 NB216_204 NB211_216 NB216_211 hnb114 hnc114 hnb115 hnc115 w117 z190_ z191_ z192_ z193_ z194_ z195_ z196_ wc u20 u21 u22 u23 u24 u25 u26 u27 u28 u29 u30 u31 u32 u33 u34 u35 u36 u37 u38 u39 u40 u41 u42 u43 u44 u45 u46 u47 u48 u49 u50 u51 u52 u53 u54 u55 u56 u57 u58 u59 u60 u61 u62 u63 u64 u65 u66 u67 u68 u69 u70 u71 u72 u73 u74 u75 u76 u77 u78 u79 u80 u81 u82 u83 u84 u85 u86 u87 u88 u89 u90 u91 u92 u93 u94 u95 u96 u97 u98 u99 u100 u101 u102 u103 u104 u105 u106 u107 u108 u109 u110 u111 u112 u113 u114 u115 u116 u117 u118 u119 u120 u121 u122 u123 u124 u125 u126 u127 u128 u129 u130 u131 u132 u133 u134 u135 u136 u137 u138 u139 u140 u141 u142 u143 u144 u145 u146 u147 u148 u149 u150 u151 u152 u153 u154 u155 u156 u157 u158 u159 u160 u161 u162 u163 u164 u165 u166 u167 u168 u169 u170 u171 u172 u173 u174 u175 u176 u177 u178 u179 u180 u181 u182 u183 u184 u185 u186 u187 u188 u189 u190 u191 u192 u193 u194 u195 u196 u197 u198 u199 u200 u201 u202 u203 u204 u205 u206 kq x217000_109 x217001_109 x217002_109 x217003_109 x217004_109 x217005_109 x217006_109 x217007_109 x217008_109 x217009_109 x217010_109 x217011_109 x217012_109 x217013_109 x217014_109 x217015_109 HA HJ109 HO_7 BK204 BK211 BK216 HB
 cases kq with
 | zero => exact absurd HA.out (by simp [watchwordlaw21_PathsTriangle.j4])
 | succ kj109 =>
  have H := HA.out
  clear HA
  simp only [watchwordlaw21_PathsTriangle.j4] at H
  replace H := Option.bind_eq_some_iff.mp H
  obtain ⟨⟨t217, t220⟩, A1290, H⟩ := H
  replace H : ((watchwordlaw0_Num.f t220).bind fun t221 => (if t221 = 0 then (watchwordlaw21_PathsTriangle.j5 kj109 t206 t217 ((t217.length : Int) != (t206.length : Int))) else (watchwordlaw21_PathsTriangle.j5 kj109 t206 t217 true))) = some r := H
  have A129 := Aside0.mk A1290
  clear A1290
  have HC130 := Aside0.mk H
  clear H
  have hnb131 := NB216_204.out
  have hnc131 := NB204_216.out
  have hnb132 := NB216_211.out
  have hnc132 := NB211_216.out
  obtain ⟨hcz133_0, hcz133_1, hcz133_2, hcz133_3, hcz133_4, hcz133_5, hcz133_6, hcz133_7, hcz133_8, hcz133_9, hcz133_10, hcz133_11, hcz133_12, hcz133_13, hcz133_14, hcz133_15⟩ := cells16 BK216.out
  have hfz133_0 := fun (j_ : Nat) => blk_frozen BK216.out j_
  go_upto_region 29 with (first | ((with_reducible refine gate_callee (f := 13) rfl ?_); refine goesL_ (some 150) rfl rfl Try.func13 (by kernel_rfl) rfl #[.agg #[.int .i64 x217000_109, .int .i64 x217001_109, .int .i64 x217002_109, .int .i64 x217003_109, .int .i64 x217004_109, .int .i64 x217005_109, .int .i64 x217006_109, .int .i64 x217007_109, .int .i64 x217008_109, .int .i64 x217009_109, .int .i64 x217010_109, .int .i64 x217011_109, .int .i64 x217012_109, .int .i64 x217013_109, .int .i64 x217014_109, .int .i64 x217015_109], .int .i64 a1] rfl (by (try simp only [List.map_toArray, List.map_cons, List.map_nil]); first | done | rfl | (simp only [List.length_drop, List.length_take]; rfl)) ?_; (with_reducible refine (paths_Routes.calls kj109 x217000_109 x217001_109 x217002_109 x217003_109 x217004_109 x217005_109 x217006_109 x217007_109 x217008_109 x217009_109 x217010_109 x217011_109 x217012_109 x217013_109 x217014_109 x217015_109 a1 t217 t220 _ A129.out).mono ?_); rintro e w134 ⟨v218, rfl, ho0, hb⟩; refine ⟨_, rfl, ?_⟩; have n0_ := Aside0.mk (Kd.S_elder' (by (with_reducible repeat (first | apply Kd.S_alloc | apply Kd.S_drewN | apply Kd.S_drew)); exact HO_7.out) (Kd.S_base ho0) hb); have n1_ := Aside0.mk (Kd.S_lower (Kd.S_new' ho0 (Kd.S_lt (by (with_reducible repeat (first | apply Kd.S_alloc | apply Kd.S_drewN | apply Kd.S_drew)); exact HO_7.out))) (below_size (by repeat (first | (with_reducible first | exact HB.out | apply below_alloc | apply pw_below_drewN | apply below_drew1 | refine below_set ?_ GE204.out | refine below_set ?_ GE211.out | refine below_set ?_ GE216.out) | exact HB.out)))); have n2_ := Aside0.mk (blk_below (g := gb204) (o := .cells #[.int .i64 a0_0, .int .i64 a0_1, .int .i64 a0_2, .int .i64 a0_3, .int .i64 a0_4, .int .i64 a0_5, .int .i64 a0_6, .int .i64 a0_7, .int .i64 a0_8, .int .i64 a0_9, .int .i64 a0_10, .int .i64 a0_11, .int .i64 a0_12, .int .i64 a0_13, .int .i64 a0_14, .int .i64 a0_15] 23 (0, 0)) (by (with_reducible repeat (first | refine blk_drewN ?_ _ | refine blk_drew ?_ | refine blk_alloc ?_ _)); exact BK204.out) hb); have n3_ := Aside0.mk (blk_below (g := gb211) (o := .cells #[.int .i64 x212000_2, .int .i64 x212001_2, .int .i64 x212002_2, .int .i64 x212003_2, .int .i64 x212004_2] 44 (0, 0)) (by (with_reducible repeat (first | refine blk_drewN ?_ _ | refine blk_drew ?_ | refine blk_alloc ?_ _)); exact BK211.out) hb); have n4_ := Aside0.mk (blk_below (g := gb216) (o := .cells #[.int .i64 x217000_109, .int .i64 x217001_109, .int .i64 x217002_109, .int .i64 x217003_109, .int .i64 x217004_109, .int .i64 x217005_109, .int .i64 x217006_109, .int .i64 x217007_109, .int .i64 x217008_109, .int .i64 x217009_109, .int .i64 x217010_109, .int .i64 x217011_109, .int .i64 x217012_109, .int .i64 x217013_109, .int .i64 x217014_109, .int .i64 x217015_109] 23 (0, 0)) (by (with_reducible repeat (first | refine blk_drewN ?_ _ | refine blk_drew ?_ | refine blk_alloc ?_ _)); exact BK216.out) hb); have n5_ := Aside0.mk (below_step (by repeat (first | (with_reducible first | exact HB.out | apply below_alloc | apply pw_below_drewN | apply below_drew1 | refine below_set ?_ GE204.out | refine below_set ?_ GE211.out | refine below_set ?_ GE216.out) | exact HB.out)) hb); clear HO_7; clear BK204; clear BK211; clear BK216; clear HB; have HO_7 := n0_; have HO219 := n1_; have BK204 := n2_; have BK211 := n3_; have BK216 := n4_; have HB := n5_; clear n0_ n1_ n2_ n3_ n4_ n5_; (try clear hb); (try clear hb2); (try clear hk); (try clear hi); (try clear ho0)))
  (try simp only [Act.put, List.setIfInBounds_toArray, List.set_cons_zero, List.set_cons_succ])
  go_cut [162] (fun v162 wc => ∃ (kq : Nat) (x162_129 : Bool), v162 = .bool x162_129 ∧ Aside0 (watchwordlaw21_PathsTriangle.j5 kq t206 t217 x162_129 = some r) ∧ Aside0 (kq ≤ kj109) ∧ Aside0 (Kd.S k41 41 wc w.heap.size (fun k_ => some k_ ≠ (v218 : Value).ownBlock) (.slice Ao27 t206.length co27) t206) ∧ Aside0 (Kd.S k41 41 wc w.heap.size (fun k_ => some k_ ≠ ((.slice Ao27 t206.length co27) : Value).ownBlock) v218 t217) ∧ Aside0 (wc.heap[gb204]? = some (.cells #[.int .i64 a0_0, .int .i64 a0_1, .int .i64 a0_2, .int .i64 a0_3, .int .i64 a0_4, .int .i64 a0_5, .int .i64 a0_6, .int .i64 a0_7, .int .i64 a0_8, .int .i64 a0_9, .int .i64 a0_10, .int .i64 a0_11, .int .i64 a0_12, .int .i64 a0_13, .int .i64 a0_14, .int .i64 a0_15] 23 (0, 0))) ∧ Aside0 (wc.heap[gb211]? = some (.cells #[.int .i64 x212000_2, .int .i64 x212001_2, .int .i64 x212002_2, .int .i64 x212003_2, .int .i64 x212004_2] 44 (0, 0))) ∧ Aside0 (wc.heap[gb216]? = some (.cells #[.int .i64 x217000_109, .int .i64 x217001_109, .int .i64 x217002_109, .int .i64 x217003_109, .int .i64 x217004_109, .int .i64 x217005_109, .int .i64 x217006_109, .int .i64 x217007_109, .int .i64 x217008_109, .int .i64 x217009_109, .int .i64 x217010_109, .int .i64 x217011_109, .int .i64 x217012_109, .int .i64 x217013_109, .int .i64 x217014_109, .int .i64 x217015_109] 23 (0, 0))) ∧ Aside0 (Below w.heap.size w wc))
  case first =>
   have H := HC130.out
   clear HC130
   replace H := Option.bind_eq_some_iff.mp H
   obtain ⟨t221, A1350, H⟩ := H
   replace H : (if t221 = 0 then (watchwordlaw21_PathsTriangle.j5 kj109 t206 t217 ((t217.length : Int) != (t206.length : Int))) else (watchwordlaw21_PathsTriangle.j5 kj109 t206 t217 true)) = some r := H
   have A135 := Aside0.mk A1350
   clear A1350
   by_cases c136 : t221 = 0
   ·rw [if_pos c136] at H
    have c136b0 : (t221 == 0) = true := beq_iff_eq.mpr c136
    have c136b1 : (t221 != 0) = false := bne_eq_false_iff_eq.mpr c136
    clear c136
    (first | rw [c136b0] | (simp only [i64_w, i32_w]; rw [c136b0]) | skip)
    focus
     have H' := Aside0.mk H
     clear H
     go_wp2_with (first | ((with_reducible refine gate_callee (f := 16) rfl ?_); refine goesL_ (some 154) rfl rfl Try.func16 (by kernel_rfl) rfl #[.int .i64 t220] rfl (by (try simp only [List.map_toArray, List.map_cons, List.map_nil]); first | done | rfl | (simp only [List.length_drop, List.length_take]; rfl)) ?_; (with_reducible refine (watchwordlaw0_Num.calls t220 t221 _ A135.out).mono ?_); rintro e w' ⟨rfl, ⟨nd, rfl⟩⟩; refine ⟨_, rfl, ?_⟩; obtain ⟨Ao137, co137, eo137⟩ := Kd.S_slice HO219.out; subst eo137))
     go_meet
     case rel => exact ⟨_, (((t217.length : Int) != (t206.length : Int))), (by first | rfl | (simp; done) | (simp [*]; done)), H', ⟨by have := HJ8.out; have := HK2.out; have := HK3.out; have := HJ109.out; first | omega | exact Nat.le_refl _⟩, ⟨by (with_reducible repeat (first | apply Kd.S_alloc | apply Kd.S_drewN | apply Kd.S_drew)); exact Kd.S_mono HO_7.out (fun _ hk => hk.2)⟩, ⟨by (with_reducible repeat (first | apply Kd.S_alloc | apply Kd.S_drewN | apply Kd.S_drew)); exact Kd.S_mono HO219.out (fun _ hk => hk.2)⟩, ⟨by (with_reducible repeat (first | refine blk_drewN ?_ _ | refine blk_drew ?_ | refine blk_alloc ?_ _)); exact BK204.out⟩, ⟨by (with_reducible repeat (first | refine blk_drewN ?_ _ | refine blk_drew ?_ | refine blk_alloc ?_ _)); exact BK211.out⟩, ⟨by (with_reducible repeat (first | refine blk_drewN ?_ _ | refine blk_drew ?_ | refine blk_alloc ?_ _)); exact BK216.out⟩, ⟨by repeat (first | (with_reducible first | exact HB.out | apply below_alloc | apply pw_below_drewN | apply below_drew1 | refine below_set ?_ GE204.out | refine below_set ?_ GE211.out | refine below_set ?_ GE216.out) | exact HB.out)⟩⟩
   ·rw [if_neg c136] at H
    have c136b0 : (t221 == 0) = false := beq_eq_false_iff_ne.mpr c136
    have c136b1 : (t221 != 0) = true := bne_iff_ne.mpr c136
    (first | rw [c136b0] | (simp only [i64_w, i32_w]; rw [c136b0]) | skip)
    focus
     exact absurd H (fun h_ => (by
      have hd_ : ∀ k_, watchwordlaw21_PathsTriangle.j5 k_ t206 t217 true = some r → False := by
       intro k_ h_
       cases k_ with
       | zero => exact absurd h_ (by simp [watchwordlaw21_PathsTriangle.j5])
       | succ k_ =>
        simp only [watchwordlaw21_PathsTriangle.j5, if_true] at h_
        exact absurd (Option.some.inj h_) (by rw [HT.out]; decide)
      exact hd_ _ h_))
  case rest =>
   clear HC130
   try clear c1
   try clear p1
   try clear q1
   try clear hx1
   try clear c2
   try clear p2
   try clear c6
   try clear p6
   try clear c7
   try clear c10
   try clear p10
   try clear q10
   try clear hx10
   try clear c11
   try clear p11
   try clear q11
   try clear c12
   try clear p12
   try clear q12
   try clear hx12
   try clear c13
   try clear c16
   try clear c28
   try clear c28b0
   try clear c29
   try clear c29b0
   try clear c63
   try clear c64
   try clear p64
   try clear c69
   try clear c69b0
   try clear c71
   try clear c72
   try clear c74
   try clear c75
   try clear p102
   try clear q102
   try clear hx103
   try clear c105
   try clear c105b0
   try clear c106
   try clear c106b0
   try clear c108
   try clear c108b0
   try clear c109
   try clear c109b0
   try clear c111
   try clear c114
   try clear c115
   try clear p118
   try clear q118
   try clear p119
   try clear q119
   try clear hx120
   try clear c121
   try clear c121b0
   try clear p123
   try clear q123
   try clear p124
   try clear q124
   try clear p126
   try clear q126
   try clear p127
   try clear q127
   try clear c131
   try clear c132
   try clear c136
   try clear c136b0
   try clear c136b1
   try clear hcz112_0
   try clear hcz112_1
   try clear hcz112_10
   try clear hcz112_11
   try clear hcz112_12
   try clear hcz112_13
   try clear hcz112_14
   try clear hcz112_15
   try clear hcz112_2
   try clear hcz112_3
   try clear hcz112_4
   try clear hcz112_5
   try clear hcz112_6
   try clear hcz112_7
   try clear hcz112_8
   try clear hcz112_9
   try clear hcz116_0
   try clear hcz116_1
   try clear hcz116_10
   try clear hcz116_11
   try clear hcz116_12
   try clear hcz116_13
   try clear hcz116_14
   try clear hcz116_15
   try clear hcz116_2
   try clear hcz116_3
   try clear hcz116_4
   try clear hcz116_5
   try clear hcz116_6
   try clear hcz116_7
   try clear hcz116_8
   try clear hcz116_9
   try clear hcz133_0
   try clear hcz133_1
   try clear hcz133_10
   try clear hcz133_11
   try clear hcz133_12
   try clear hcz133_13
   try clear hcz133_14
   try clear hcz133_15
   try clear hcz133_2
   try clear hcz133_3
   try clear hcz133_4
   try clear hcz133_5
   try clear hcz133_6
   try clear hcz133_7
   try clear hcz133_8
   try clear hcz133_9
   try clear hfz112_0
   try clear hfz116_0
   try clear hfz133_0
   try clear hx103_0
   try clear hx120_0
   try clear p1
   try clear p10
   try clear p102
   try clear p11
   try clear p118
   try clear p119
   try clear p12
   try clear p123
   try clear p124
   try clear p126
   try clear p127
   try clear p2
   try clear p6
   try clear p64
   try clear q1
   try clear q10
   try clear q102
   try clear q11
   try clear q118
   try clear q119
   try clear q12
   try clear q123
   try clear q124
   try clear q126
   try clear q127
   obtain ⟨kq, x162_129, rfl, HA, HJ129, HO_7, HO_17, BK204, BK211, BK216, HB⟩ := hcut
   cases kq with
   | zero => exact absurd HA.out (by simp [watchwordlaw21_PathsTriangle.j5])
   | succ kj129 =>
    have H := HA.out
    clear HA
    simp only [watchwordlaw21_PathsTriangle.j5] at H
    by_cases c138 : x162_129 = true
    ·subst c138
     have H1 : (some false) = some r := by rw [if_pos rfl] at H; exact H
     clear H
     have H := H1
     clear H1
     focus
      exact absurd (Option.some.inj H) (by rw [HT.out]; decide)
    ·replace c138 := Bool.eq_false_iff.mpr c138
     subst c138
     have H1 : (watchwordlaw21_PathsTriangle.l3 kj129 t206 t217 0) = some r := by rw [if_neg (show ¬ (false = true) by decide)] at H; exact H
     clear H
     have H := H1
     clear H1
     have H' := Aside0.mk H
     clear H
     go_wp2
     go_loopg [19] kj129 (fun kq v19 w' => ∃ (x19_6 : Int), v19 = .int .i64 x19_6 ∧ Aside0 (watchwordlaw21_PathsTriangle.l3 kq t206 t217 x19_6 = some r) ∧ Aside0 (kq ≤ kj129) ∧ Aside0 (Kd.S k41 41 w' w.heap.size (fun k_ => some k_ ≠ (v218 : Value).ownBlock) (.slice Ao27 t206.length co27) t206) ∧ Aside0 (Kd.S k41 41 w' w.heap.size (fun k_ => some k_ ≠ ((.slice Ao27 t206.length co27) : Value).ownBlock) v218 t217) ∧ Aside0 (w'.heap[gb204]? = some (.cells #[.int .i64 a0_0, .int .i64 a0_1, .int .i64 a0_2, .int .i64 a0_3, .int .i64 a0_4, .int .i64 a0_5, .int .i64 a0_6, .int .i64 a0_7, .int .i64 a0_8, .int .i64 a0_9, .int .i64 a0_10, .int .i64 a0_11, .int .i64 a0_12, .int .i64 a0_13, .int .i64 a0_14, .int .i64 a0_15] 23 (0, 0))) ∧ Aside0 (w'.heap[gb211]? = some (.cells #[.int .i64 x212000_2, .int .i64 x212001_2, .int .i64 x212002_2, .int .i64 x212003_2, .int .i64 x212004_2] 44 (0, 0))) ∧ Aside0 (w'.heap[gb216]? = some (.cells #[.int .i64 x217000_109, .int .i64 x217001_109, .int .i64 x217002_109, .int .i64 x217003_109, .int .i64 x217004_109, .int .i64 x217005_109, .int .i64 x217006_109, .int .i64 x217007_109, .int .i64 x217008_109, .int .i64 x217009_109, .int .i64 x217010_109, .int .i64 x217011_109, .int .i64 x217012_109, .int .i64 x217013_109, .int .i64 x217014_109, .int .i64 x217015_109] 23 (0, 0))) ∧ Aside0 (Below w.heap.size w w'))
     case atStart => exact ⟨(0), (by first | rfl | (simp; done) | (simp [*]; done)), H', ⟨Nat.le_refl _⟩, ⟨by (with_reducible repeat (first | apply Kd.S_alloc | apply Kd.S_drewN | apply Kd.S_drew)); exact HO_7.out⟩, ⟨by (with_reducible repeat (first | apply Kd.S_alloc | apply Kd.S_drewN | apply Kd.S_drew)); exact HO_17.out⟩, ⟨by (with_reducible repeat (first | refine blk_drewN ?_ _ | refine blk_drew ?_ | refine blk_alloc ?_ _)); exact BK204.out⟩, ⟨by (with_reducible repeat (first | refine blk_drewN ?_ _ | refine blk_drew ?_ | refine blk_alloc ?_ _)); exact BK211.out⟩, ⟨by (with_reducible repeat (first | refine blk_drewN ?_ _ | refine blk_drew ?_ | refine blk_alloc ?_ _)); exact BK216.out⟩, ⟨by repeat (first | (with_reducible first | exact HB.out | apply below_alloc | apply pw_below_drewN | apply below_drew1 | refine below_set ?_ GE204.out | refine below_set ?_ GE211.out | refine below_set ?_ GE216.out) | exact HB.out)⟩⟩
     case round =>
      clear H'
      try clear c1
      try clear p1
      try clear q1
      try clear hx1
      try clear c2
      try clear p2
      try clear c6
      try clear p6
      try clear c7
      try clear c10
      try clear p10
      try clear q10
      try clear hx10
      try clear c11
      try clear p11
      try clear q11
      try clear c12
      try clear p12
      try clear q12
      try clear hx12
      try clear c13
      try clear c16
      try clear c28
      try clear c28b0
      try clear c29
      try clear c29b0
      try clear c63
      try clear c64
      try clear p64
      try clear c69
      try clear c69b0
      try clear c71
      try clear c72
      try clear c74
      try clear c75
      try clear p102
      try clear q102
      try clear hx103
      try clear c105
      try clear c105b0
      try clear c106
      try clear c106b0
      try clear c108
      try clear c108b0
      try clear c109
      try clear c109b0
      try clear c111
      try clear c114
      try clear c115
      try clear p118
      try clear q118
      try clear p119
      try clear q119
      try clear hx120
      try clear c121
      try clear c121b0
      try clear p123
      try clear q123
      try clear p124
      try clear q124
      try clear p126
      try clear q126
      try clear p127
      try clear q127
      try clear c131
      try clear c132
      try clear c136
      try clear c136b0
      try clear c136b1
      try clear c138
      try clear hcz112_0
      try clear hcz112_1
      try clear hcz112_10
      try clear hcz112_11
      try clear hcz112_12
      try clear hcz112_13
      try clear hcz112_14
      try clear hcz112_15
      try clear hcz112_2
      try clear hcz112_3
      try clear hcz112_4
      try clear hcz112_5
      try clear hcz112_6
      try clear hcz112_7
      try clear hcz112_8
      try clear hcz112_9
      try clear hcz116_0
      try clear hcz116_1
      try clear hcz116_10
      try clear hcz116_11
      try clear hcz116_12
      try clear hcz116_13
      try clear hcz116_14
      try clear hcz116_15
      try clear hcz116_2
      try clear hcz116_3
      try clear hcz116_4
      try clear hcz116_5
      try clear hcz116_6
      try clear hcz116_7
      try clear hcz116_8
      try clear hcz116_9
      try clear hcz133_0
      try clear hcz133_1
      try clear hcz133_10
      try clear hcz133_11
      try clear hcz133_12
      try clear hcz133_13
      try clear hcz133_14
      try clear hcz133_15
      try clear hcz133_2
      try clear hcz133_3
      try clear hcz133_4
      try clear hcz133_5
      try clear hcz133_6
      try clear hcz133_7
      try clear hcz133_8
      try clear hcz133_9
      try clear hfz112_0
      try clear hfz116_0
      try clear hfz133_0
      try clear hx103_0
      try clear hx120_0
      try clear p1
      try clear p10
      try clear p102
      try clear p11
      try clear p118
      try clear p119
      try clear p12
      try clear p123
      try clear p124
      try clear p126
      try clear p127
      try clear p2
      try clear p6
      try clear p64
      try clear q1
      try clear q10
      try clear q102
      try clear q11
      try clear q118
      try clear q119
      try clear q12
      try clear q123
      try clear q124
      try clear q126
      try clear q127
      obtain ⟨x19_6, rfl, HA, HK6, HO_7, HO_17, BK204, BK211, BK216, HB⟩ := hrel
      cases gk with
      | zero => exact absurd HA.out (by simp [watchwordlaw21_PathsTriangle.l3])
      | succ k6 =>
       have H := HA.out
       clear HA
       simp only [watchwordlaw21_PathsTriangle.l3] at H
       by_cases c139 : x19_6 < (t206.length : Int)
       ·rw [if_pos c139] at H
        have c139b0 : decide (x19_6 < (t206.length : Int)) = true := decide_eq_true c139
        clear c139
        by_cases c140 : 0 ≤ x19_6
        ·rw [if_pos c140] at H
         have c140b0 : decide (0 ≤ x19_6) = true := decide_eq_true c140
         clear c140
         by_cases c141 : x19_6 < (t217.length : Int)
         ·rw [if_pos c141] at H
          have c141b0 : decide (x19_6 < (t217.length : Int)) = true := decide_eq_true c141
          clear c141
          by_cases c142 : ((rd_T41 t217 x19_6).f0) = ((rd_T41 t206 x19_6).f0)
          ·rw [if_pos c142] at H
           have c142b0 : (((rd_T41 t217 x19_6).f0) == ((rd_T41 t206 x19_6).f0)) = true := beq_iff_eq.mpr c142
           have c142b1 : (((rd_T41 t217 x19_6).f0) != ((rd_T41 t206 x19_6).f0)) = false := bne_eq_false_iff_eq.mpr c142
           clear c142
           by_cases c143 : ((rd_T41 t217 x19_6).f1) > ((rd_T41 t206 x19_6).f1)
           ·rw [if_pos c143] at H
            have c143b0 : decide (((rd_T41 t206 x19_6).f1) < ((rd_T41 t217 x19_6).f1)) = true := decide_eq_true c143
            clear c143
            focus
             exact absurd (Option.some.inj H) (by rw [HT.out]; decide)
           ·rw [if_neg c143] at H
            have c143b0 : decide (((rd_T41 t206 x19_6).f1) < ((rd_T41 t217 x19_6).f1)) = false := decide_eq_false c143
            clear c143
            by_cases c144 : ((rd_T41 t217 x19_6).f1) < (wrap64 (((rd_T41 t206 x19_6).f1) - 1))
            ·rw [if_pos c144] at H
             have c144b0 : decide (((rd_T41 t217 x19_6).f1) < (wrap64 (((rd_T41 t206 x19_6).f1) - 1))) = true := decide_eq_true c144
             clear c144
             focus
              exact absurd (Option.some.inj H) (by rw [HT.out]; decide)
            ·rw [if_neg c144] at H
             have c144b0 : decide (((rd_T41 t217 x19_6).f1) < (wrap64 (((rd_T41 t206 x19_6).f1) - 1))) = false := decide_eq_false c144
             clear c144
             focus
              have H' := Aside0.mk H
              clear H
              try go_wp2
              have n0_ := Aside0.mk (Kd.S_drew HO_7.out)
              have n1_ := Aside0.mk (Kd.S_drew HO_17.out)
              have n2_ := Aside0.mk (blk_drew BK204.out)
              have n3_ := Aside0.mk (blk_drew BK211.out)
              have n4_ := Aside0.mk (blk_drew BK216.out)
              have n5_ := Aside0.mk (below_drew1 HB.out)
              clear HO_7
              clear HO_17
              clear BK204
              clear BK211
              clear BK216
              clear HB
              have HO_7 := n0_
              have HO_17 := n1_
              have BK204 := n2_
              have BK211 := n3_
              have BK216 := n4_
              have HB := n5_
              clear n0_ n1_ n2_ n3_ n4_ n5_
              obtain ⟨Ao146, co146, eo146⟩ := Kd.S_slice HO_17.out
              (first | subst eo146 | (injection eo146 with f1_ f2_ f3_; have f4_ := f1_.symm; have f5_ := f3_.symm; clear f1_ f2_ f3_; subst f4_; subst f5_))
              have p222 : 0 ≤ (x19_6 : Int) := of_decide_eq_true (by first | (with_reducible assumption) | assumption)
              have q222 : x19_6 < (t217.length : Int) := of_decide_eq_true (by first | (with_reducible assumption) | assumption)
              obtain ⟨ad222, A222_2, c222_2, e222, hx222_0, hx222_1, hx222_2, hl222_2, hi222_2⟩ := at_T41 (Kd.S_reads' HO_17.out).2.2 x19_6 p222 q222
              cases e222
              obtain ⟨ce222, hce222, hMe222, hcc222⟩ := Kd.S_get HO_17.out z41 x19_6 p222 (by first | exact q222 | exact of_decide_eq_true (by first | (with_reducible assumption) | assumption) | (have e_ := (Kd.S_reads' HO_17.out).1; omega))
              obtain ⟨ve222_2, rfl, ge222_2⟩ := k41_openM hMe222
              have hv222_2 := hcc222 2 _ rfl
              rw [add_field _ _ 2 (by omega)] at hv222_2
              replace hv222_2 := Option.some.inj (hv222_2.symm.trans hx222_2)
              rw [hv222_2] at ge222_2
              have HL222_2 := Aside0.mk (show Kd.R (Kd.int .i64) 3 _ _ _ _ ((rd_T41 t217 x19_6).f2) from ge222_2)
              clear hv222_2 ge222_2
              clear hcc222 hce222
              have HR222_2 := Aside0.mk hi222_2
              have HC222_2 := Aside0.mk hl222_2
              clear hi222_2 hl222_2
              replace p222 := eq_true p222
              replace q222 := eq_true q222
              have p223 : 0 ≤ (x19_6 : Int) := of_decide_eq_true (by first | (with_reducible assumption) | assumption)
              have q223 : x19_6 < (t206.length : Int) := of_decide_eq_true (by first | (with_reducible assumption) | assumption)
              obtain ⟨ad223, A223_2, c223_2, e223, hx223_0, hx223_1, hx223_2, hl223_2, hi223_2⟩ := at_T41 (Kd.S_reads' HO_7.out).2.2 x19_6 p223 q223
              cases e223
              obtain ⟨ce223, hce223, hMe223, hcc223⟩ := Kd.S_get HO_7.out z41 x19_6 p223 (by first | exact q223 | exact of_decide_eq_true (by first | (with_reducible assumption) | assumption) | (have e_ := (Kd.S_reads' HO_7.out).1; omega))
              obtain ⟨ve223_2, rfl, ge223_2⟩ := k41_openM hMe223
              have hv223_2 := hcc223 2 _ rfl
              rw [add_field _ _ 2 (by omega)] at hv223_2
              replace hv223_2 := Option.some.inj (hv223_2.symm.trans hx223_2)
              rw [hv223_2] at ge223_2
              have HL223_2 := Aside0.mk (show Kd.R (Kd.int .i64) 3 _ _ _ _ ((rd_T41 t206 x19_6).f2) from ge223_2)
              clear hv223_2 ge223_2
              clear hcc223 hce223
              have HR223_2 := Aside0.mk hi223_2
              have HC223_2 := Aside0.mk hl223_2
              clear hi223_2 hl223_2
              replace p223 := eq_true p223
              replace q223 := eq_true q223
              have p224 : 0 ≤ (x19_6 : Int) := of_decide_eq_true (by first | (with_reducible assumption) | assumption)
              have q224 : x19_6 < (t217.length : Int) := of_decide_eq_true (by first | (with_reducible assumption) | assumption)
              obtain ⟨ad224, A224_2, c224_2, e224, hx224_0, hx224_1, hx224_2, hl224_2, hi224_2⟩ := at_T41 (Kd.S_reads' HO_17.out).2.2 x19_6 p224 q224
              obtain rfl : ad222 = ad224 := (by injection e224)
              obtain ⟨ce224, hce224, hMe224, hcc224⟩ := Kd.S_get HO_17.out z41 x19_6 p224 (by first | exact q224 | exact of_decide_eq_true (by first | (with_reducible assumption) | assumption) | (have e_ := (Kd.S_reads' HO_17.out).1; omega))
              obtain ⟨ve224_2, rfl, ge224_2⟩ := k41_openM hMe224
              have hv224_2 := hcc224 2 _ rfl
              rw [add_field _ _ 2 (by omega)] at hv224_2
              replace hv224_2 := Option.some.inj (hv224_2.symm.trans hx224_2)
              rw [hv224_2] at ge224_2
              have HL224_2 := Aside0.mk (show Kd.R (Kd.int .i64) 3 _ _ _ _ ((rd_T41 t217 x19_6).f2) from ge224_2)
              clear hv224_2 ge224_2
              clear hcc224 hce224
              have HR224_2 := Aside0.mk hi224_2
              have HC224_2 := Aside0.mk hl224_2
              clear hi224_2 hl224_2
              replace p224 := eq_true p224
              replace q224 := eq_true q224
              have ea_ := Option.some.inj (hx222_2.symm.trans hx224_2)
              injection ea_ with ea_ en_ ec_
              subst ea_
              subst ec_
              clear en_
              have p225 : 0 ≤ (x19_6 : Int) := of_decide_eq_true (by first | (with_reducible assumption) | assumption)
              have q225 : x19_6 < (t206.length : Int) := of_decide_eq_true (by first | (with_reducible assumption) | assumption)
              obtain ⟨ad225, A225_2, c225_2, e225, hx225_0, hx225_1, hx225_2, hl225_2, hi225_2⟩ := at_T41 (Kd.S_reads' HO_7.out).2.2 x19_6 p225 q225
              obtain rfl : ad223 = ad225 := (by injection e225)
              obtain ⟨ce225, hce225, hMe225, hcc225⟩ := Kd.S_get HO_7.out z41 x19_6 p225 (by first | exact q225 | exact of_decide_eq_true (by first | (with_reducible assumption) | assumption) | (have e_ := (Kd.S_reads' HO_7.out).1; omega))
              obtain ⟨ve225_2, rfl, ge225_2⟩ := k41_openM hMe225
              have hv225_2 := hcc225 2 _ rfl
              rw [add_field _ _ 2 (by omega)] at hv225_2
              replace hv225_2 := Option.some.inj (hv225_2.symm.trans hx225_2)
              rw [hv225_2] at ge225_2
              have HL225_2 := Aside0.mk (show Kd.R (Kd.int .i64) 3 _ _ _ _ ((rd_T41 t206 x19_6).f2) from ge225_2)
              clear hv225_2 ge225_2
              clear hcc225 hce225
              have HR225_2 := Aside0.mk hi225_2
              have HC225_2 := Aside0.mk hl225_2
              clear hi225_2 hl225_2
              replace p225 := eq_true p225
              replace q225 := eq_true q225
              have ea_ := Option.some.inj (hx223_2.symm.trans hx225_2)
              injection ea_ with ea_ en_ ec_
              subst ea_
              subst ec_
              clear en_
              have p226 : 0 ≤ (x19_6 : Int) := of_decide_eq_true (by first | (with_reducible assumption) | assumption)
              have q226 : x19_6 < (t217.length : Int) := of_decide_eq_true (by first | (with_reducible assumption) | assumption)
              obtain ⟨ad226, A226_2, c226_2, e226, hx226_0, hx226_1, hx226_2, hl226_2, hi226_2⟩ := at_T41 (Kd.S_reads' HO_17.out).2.2 x19_6 p226 q226
              obtain rfl : ad222 = ad226 := (by injection e226)
              obtain ⟨ce226, hce226, hMe226, hcc226⟩ := Kd.S_get HO_17.out z41 x19_6 p226 (by first | exact q226 | exact of_decide_eq_true (by first | (with_reducible assumption) | assumption) | (have e_ := (Kd.S_reads' HO_17.out).1; omega))
              obtain ⟨ve226_2, rfl, ge226_2⟩ := k41_openM hMe226
              have hv226_2 := hcc226 2 _ rfl
              rw [add_field _ _ 2 (by omega)] at hv226_2
              replace hv226_2 := Option.some.inj (hv226_2.symm.trans hx226_2)
              rw [hv226_2] at ge226_2
              have HL226_2 := Aside0.mk (show Kd.R (Kd.int .i64) 3 _ _ _ _ ((rd_T41 t217 x19_6).f2) from ge226_2)
              clear hv226_2 ge226_2
              clear hcc226 hce226
              have HR226_2 := Aside0.mk hi226_2
              have HC226_2 := Aside0.mk hl226_2
              clear hi226_2 hl226_2
              replace p226 := eq_true p226
              replace q226 := eq_true q226
              have ea_ := Option.some.inj (hx222_2.symm.trans hx226_2)
              injection ea_ with ea_ en_ ec_
              subst ea_
              subst ec_
              clear en_
              have p227 : 0 ≤ (x19_6 : Int) := of_decide_eq_true (by first | (with_reducible assumption) | assumption)
              have q227 : x19_6 < (t206.length : Int) := of_decide_eq_true (by first | (with_reducible assumption) | assumption)
              obtain ⟨ad227, A227_2, c227_2, e227, hx227_0, hx227_1, hx227_2, hl227_2, hi227_2⟩ := at_T41 (Kd.S_reads' HO_7.out).2.2 x19_6 p227 q227
              obtain rfl : ad223 = ad227 := (by injection e227)
              obtain ⟨ce227, hce227, hMe227, hcc227⟩ := Kd.S_get HO_7.out z41 x19_6 p227 (by first | exact q227 | exact of_decide_eq_true (by first | (with_reducible assumption) | assumption) | (have e_ := (Kd.S_reads' HO_7.out).1; omega))
              obtain ⟨ve227_2, rfl, ge227_2⟩ := k41_openM hMe227
              have hv227_2 := hcc227 2 _ rfl
              rw [add_field _ _ 2 (by omega)] at hv227_2
              replace hv227_2 := Option.some.inj (hv227_2.symm.trans hx227_2)
              rw [hv227_2] at ge227_2
              have HL227_2 := Aside0.mk (show Kd.R (Kd.int .i64) 3 _ _ _ _ ((rd_T41 t206 x19_6).f2) from ge227_2)
              clear hv227_2 ge227_2
              clear hcc227 hce227
              have HR227_2 := Aside0.mk hi227_2
              have HC227_2 := Aside0.mk hl227_2
              clear hi227_2 hl227_2
              replace p227 := eq_true p227
              replace q227 := eq_true q227
              have ea_ := Option.some.inj (hx223_2.symm.trans hx227_2)
              injection ea_ with ea_ en_ ec_
              subst ea_
              subst ec_
              clear en_
              refine start_ (n := 38) (S := fun w' => w'.cell? (ad222.add ((x19_6).toNat * 3)) = some (.int .i64 ((rd_T41 t217 x19_6).f0)) ∧ w'.cell? ⟨(ad222.add ((x19_6).toNat * 3)).block, (ad222.add ((x19_6).toNat * 3)).off + 1, none⟩ = some (.int .i64 ((rd_T41 t217 x19_6).f1)) ∧ w'.cell? ⟨(ad222.add ((x19_6).toNat * 3)).block, (ad222.add ((x19_6).toNat * 3)).off + 2, none⟩ = some (.slice A222_2 ((rd_T41 t217 x19_6).f2).length c222_2) ∧ w'.cell? (ad223.add ((x19_6).toNat * 3)) = some (.int .i64 ((rd_T41 t206 x19_6).f0)) ∧ w'.cell? ⟨(ad223.add ((x19_6).toNat * 3)).block, (ad223.add ((x19_6).toNat * 3)).off + 1, none⟩ = some (.int .i64 ((rd_T41 t206 x19_6).f1)) ∧ w'.cell? ⟨(ad223.add ((x19_6).toNat * 3)).block, (ad223.add ((x19_6).toNat * 3)).off + 2, none⟩ = some (.slice A223_2 ((rd_T41 t206 x19_6).f2).length c223_2) ∧ w'.cell? (ad222.add ((x19_6).toNat * 3)) = some (.int .i64 ((rd_T41 t217 x19_6).f0)) ∧ w'.cell? ⟨(ad222.add ((x19_6).toNat * 3)).block, (ad222.add ((x19_6).toNat * 3)).off + 1, none⟩ = some (.int .i64 ((rd_T41 t217 x19_6).f1)) ∧ w'.cell? ⟨(ad222.add ((x19_6).toNat * 3)).block, (ad222.add ((x19_6).toNat * 3)).off + 2, none⟩ = some (.slice A222_2 ((rd_T41 t217 x19_6).f2).length c222_2) ∧ w'.cell? (ad223.add ((x19_6).toNat * 3)) = some (.int .i64 ((rd_T41 t206 x19_6).f0)) ∧ w'.cell? ⟨(ad223.add ((x19_6).toNat * 3)).block, (ad223.add ((x19_6).toNat * 3)).off + 1, none⟩ = some (.int .i64 ((rd_T41 t206 x19_6).f1)) ∧ w'.cell? ⟨(ad223.add ((x19_6).toNat * 3)).block, (ad223.add ((x19_6).toNat * 3)).off + 2, none⟩ = some (.slice A223_2 ((rd_T41 t206 x19_6).f2).length c223_2) ∧ w'.cell? (ad222.add ((x19_6).toNat * 3)) = some (.int .i64 ((rd_T41 t217 x19_6).f0)) ∧ w'.cell? ⟨(ad222.add ((x19_6).toNat * 3)).block, (ad222.add ((x19_6).toNat * 3)).off + 1, none⟩ = some (.int .i64 ((rd_T41 t217 x19_6).f1)) ∧ w'.cell? ⟨(ad222.add ((x19_6).toNat * 3)).block, (ad222.add ((x19_6).toNat * 3)).off + 2, none⟩ = some (.slice A222_2 ((rd_T41 t217 x19_6).f2).length c222_2) ∧ w'.cell? (ad223.add ((x19_6).toNat * 3)) = some (.int .i64 ((rd_T41 t206 x19_6).f0)) ∧ w'.cell? ⟨(ad223.add ((x19_6).toNat * 3)).block, (ad223.add ((x19_6).toNat * 3)).off + 1, none⟩ = some (.int .i64 ((rd_T41 t206 x19_6).f1)) ∧ w'.cell? ⟨(ad223.add ((x19_6).toNat * 3)).block, (ad223.add ((x19_6).toNat * 3)).off + 2, none⟩ = some (.slice A223_2 ((rd_T41 t206 x19_6).f2).length c223_2)) (ds := []) mk_38_0 (by kernel_rfl) rfl rfl ⟨hx222_0, hx222_1, hx222_2, hx223_0, hx223_1, hx223_2, hx224_0, hx224_1, hx224_2, hx225_0, hx225_1, hx225_2, hx226_0, hx226_1, hx226_2, hx227_0, hx227_1, hx227_2⟩ (fun hHeld => ?_); refine with_tabW watchwordlaw21_PathsTriangle.tab34 watchwordlaw21_PathsTriangle.bits34 (fun HT_ HW_ => ?_)
              generalize wr.drew = w145 at HO_7 HO_17 BK204 BK211 BK216 HB HL222_2 HL223_2 HL224_2 HL225_2 HL226_2 HL227_2 HR222_2 HR223_2 HR224_2 HR225_2 HR226_2 HR227_2 hx222_0 hx222_1 hx222_2 hx223_0 hx223_1 hx223_2 hx224_0 hx224_1 hx224_2 hx225_0 hx225_1 hx225_2 hx226_0 hx226_1 hx226_2 hx227_0 hx227_1 hx227_2 hHeld ⊢
              refine pure_ (i := 0) (N := some 169) (v := ?_) (a' := ?_) mk_38_1 rfl rfl (any_of HT_.out (by kernel_rfl)) (fun _ _ _ h => h) (Or.inl ⟨by rfl, ?_⟩) ?_ ?_
              rotate_left
              ·intro w'
               go_simp
               with_reducible rfl
              rotate_left
              ·simp only [Act.put, List.setIfInBounds_toArray, List.set_cons_zero, List.set_cons_succ, i64_w, i32_w]
               rfl
              refine pure_ (i := 1) (N := some 170) (v := ?_) (a' := ?_) mk_38_2 rfl rfl (any_of HT_.out (by kernel_rfl)) (fun _ _ _ h => h) (Or.inl ⟨by rfl, ?_⟩) ?_ ?_
              rotate_left
              ·intro w'
               go_simp
               with_reducible rfl
              rotate_left
              ·simp only [Act.put, List.setIfInBounds_toArray, List.set_cons_zero, List.set_cons_succ, i64_w, i32_w]
               rfl
              refine pure_ (i := 2) (N := some 171) (v := ?_) (a' := ?_) mk_38_3 rfl rfl (any_of HT_.out (by kernel_rfl)) (fun _ _ _ h => h) (Or.inl ⟨by rfl, ?_⟩) ?_ ?_
              rotate_left
              ·intro w'
               go_simp
               with_reducible rfl
              rotate_left
              ·simp only [Act.put, List.setIfInBounds_toArray, List.set_cons_zero, List.set_cons_succ, i64_w, i32_w]
               rfl
              refine pure_ (i := 3) (N := some 172) (v := ?_) (a' := ?_) mk_38_4 rfl rfl (any_of HT_.out (by kernel_rfl)) (fun _ _ _ h => h) (Or.inl ⟨by rfl, ?_⟩) ?_ ?_
              rotate_left
              ·intro w'
               go_simp
               with_reducible rfl
              rotate_left
              ·simp only [Act.put, List.setIfInBounds_toArray, List.set_cons_zero, List.set_cons_succ, i64_w, i32_w]
               rfl
              refine pure_ (i := 5) (N := some 174) (v := ?_) (a' := ?_) #[true, true, true, true, false, true, false, false, false, false, false, false, false, false, false, false, false, false, false, false, false, false, false, false, false, false, false, false, false, false, false, false, false, false, false, false, false, false] rfl rfl (any_of HT_.out (by kernel_rfl)) (fun _ _ _ h => h) (Or.inl ⟨by rfl, ?_⟩) ?_ ?_
              rotate_left
              ·intro w'
               go_simp
               with_reducible rfl
              rotate_left
              ·simp only [Act.put, List.setIfInBounds_toArray, List.set_cons_zero, List.set_cons_succ, i64_w, i32_w]
               rfl
              refine pure_ (i := 6) (N := some 175) (v := ?_) (a' := ?_) #[true, true, true, true, false, true, true, false, false, false, false, false, false, false, false, false, false, false, false, false, false, false, false, false, false, false, false, false, false, false, false, false, false, false, false, false, false, false] rfl rfl (any_of HT_.out (by kernel_rfl)) (fun _ _ _ h => h) (Or.inl ⟨by rfl, ?_⟩) ?_ ?_
              rotate_left
              ·intro w'
               go_simp
               with_reducible rfl
              rotate_left
              ·simp only [Act.put, List.setIfInBounds_toArray, List.set_cons_zero, List.set_cons_succ, i64_w, i32_w]
               rfl
              refine pure_ (i := 7) (N := some 176) (v := ?_) (a' := ?_) #[true, true, true, true, false, true, true, true, false, false, false, false, false, false, false, false, false, false, false, false, false, false, false, false, false, false, false, false, false, false, false, false, false, false, false, false, false, false] rfl rfl (any_of HT_.out (by kernel_rfl)) (fun _ _ _ h => h) (Or.inl ⟨by rfl, ?_⟩) ?_ ?_
              rotate_left
              ·intro w'
               go_simp
               with_reducible rfl
              rotate_left
              ·simp only [Act.put, List.setIfInBounds_toArray, List.set_cons_zero, List.set_cons_succ, i64_w, i32_w]
               rfl
              refine pure_ (i := 8) (N := some 177) (v := ?_) (a' := ?_) #[true, true, true, true, false, true, true, true, true, false, false, false, false, false, false, false, false, false, false, false, false, false, false, false, false, false, false, false, false, false, false, false, false, false, false, false, false, false] rfl rfl (any_of HT_.out (by kernel_rfl)) (fun _ _ _ h => h) (Or.inl ⟨by rfl, ?_⟩) ?_ ?_
              rotate_left
              ·intro w'
               go_simp
               with_reducible rfl
              rotate_left
              ·simp only [Act.put, List.setIfInBounds_toArray, List.set_cons_zero, List.set_cons_succ, i64_w, i32_w]
               rfl
              refine take_ (i := 4) (N := some 173) (v := ?_) (a' := ?_) mk_38_9 rfl rfl (take_ofW HT_.out HW_.out (by kernel_rfl)) (fun _ _ _ h => h) (Or.inl ⟨by rfl, ?_⟩) hHeld ?_ ?_
              rotate_left
              ·rintro w' ⟨s0, s1, s2, s3, s4, s5, s6, s7, s8, s9, s10, s11, s12, s13, s14, s15, s16, s17⟩
               go_simp
               with_reducible rfl
              rotate_left
              ·simp only [Act.put, List.setIfInBounds_toArray, List.set_cons_zero, List.set_cons_succ, i64_w, i32_w]
               rfl
              refine take_ (i := 9) (N := some 178) (v := ?_) (a' := ?_) mk_38_10 rfl rfl (take_ofW HT_.out HW_.out (by kernel_rfl)) (fun _ _ _ h => h) (Or.inl ⟨by rfl, ?_⟩) hHeld ?_ ?_
              rotate_left
              ·rintro w' ⟨s0, s1, s2, s3, s4, s5, s6, s7, s8, s9, s10, s11, s12, s13, s14, s15, s16, s17⟩
               go_simp
               with_reducible rfl
              rotate_left
              ·simp only [Act.put, List.setIfInBounds_toArray, List.set_cons_zero, List.set_cons_succ, i64_w, i32_w]
               rfl
              refine pure_ (i := 10) (N := some 179) (v := ?_) (a' := ?_) mk_38_11 rfl rfl (any_of HT_.out (by kernel_rfl)) (fun _ _ _ h => h) (Or.inl ⟨by rfl, ?_⟩) ?_ ?_
              rotate_left
              ·intro w'
               go_simp
               with_reducible rfl
              rotate_left
              ·simp only [Act.put, List.setIfInBounds_toArray, List.set_cons_zero, List.set_cons_succ, i64_w, i32_w]
               rfl
              refine pure_ (i := 11) (N := some 180) (v := ?_) (a' := ?_) mk_38_12 rfl rfl (any_of HT_.out (by kernel_rfl)) (fun _ _ _ h => h) (Or.inl ⟨by rfl, ?_⟩) ?_ ?_
              rotate_left
              ·intro w'
               go_simp
               with_reducible rfl
              rotate_left
              ·simp only [Act.put, List.setIfInBounds_toArray, List.set_cons_zero, List.set_cons_succ, i64_w, i32_w]
               rfl
              refine pure_ (i := 12) (N := some 181) (v := ?_) (a' := ?_) mk_38_13 rfl rfl (any_of HT_.out (by kernel_rfl)) (fun _ _ _ h => h) (Or.inl ⟨by rfl, ?_⟩) ?_ ?_
              rotate_left
              ·intro w'
               go_simp
               with_reducible rfl
              rotate_left
              ·simp only [Act.put, List.setIfInBounds_toArray, List.set_cons_zero, List.set_cons_succ, i64_w, i32_w]
               rfl
              refine pure_ (i := 13) (N := some 182) (v := ?_) (a' := ?_) mk_38_14 rfl rfl (any_of HT_.out (by kernel_rfl)) (fun _ _ _ h => h) (Or.inl ⟨by rfl, ?_⟩) ?_ ?_
              rotate_left
              ·intro w'
               go_simp
               with_reducible rfl
              rotate_left
              ·simp only [Act.put, List.setIfInBounds_toArray, List.set_cons_zero, List.set_cons_succ, i64_w, i32_w]
               rfl
              refine pure_ (i := 14) (N := some 183) (v := ?_) (a' := ?_) mk_38_15 rfl rfl (any_of HT_.out (by kernel_rfl)) (fun _ _ _ h => h) (Or.inl ⟨by rfl, ?_⟩) ?_ ?_
              rotate_left
              ·intro w'
               go_simp
               with_reducible rfl
              rotate_left
              ·simp only [Act.put, List.setIfInBounds_toArray, List.set_cons_zero, List.set_cons_succ, i64_w, i32_w]
               rfl
              refine pure_ (i := 15) (N := some 184) (v := ?_) (a' := ?_) mk_38_16 rfl rfl (any_of HT_.out (by kernel_rfl)) (fun _ _ _ h => h) (Or.inl ⟨by rfl, ?_⟩) ?_ ?_
              rotate_left
              ·intro w'
               go_simp
               with_reducible rfl
              rotate_left
              ·simp only [Act.put, List.setIfInBounds_toArray, List.set_cons_zero, List.set_cons_succ, i64_w, i32_w]
               rfl
              refine pure_ (i := 17) (N := some 186) (v := ?_) (a' := ?_) #[true, true, true, true, true, true, true, true, true, true, true, true, true, true, true, true, false, true, false, false, false, false, false, false, false, false, false, false, false, false, false, false, false, false, false, false, false, false] rfl rfl (any_of HT_.out (by kernel_rfl)) (fun _ _ _ h => h) (Or.inl ⟨by rfl, ?_⟩) ?_ ?_
              rotate_left
              ·intro w'
               go_simp
               with_reducible rfl
              rotate_left
              ·simp only [Act.put, List.setIfInBounds_toArray, List.set_cons_zero, List.set_cons_succ, i64_w, i32_w]
               rfl
              refine pure_ (i := 18) (N := some 187) (v := ?_) (a' := ?_) #[true, true, true, true, true, true, true, true, true, true, true, true, true, true, true, true, false, true, true, false, false, false, false, false, false, false, false, false, false, false, false, false, false, false, false, false, false, false] rfl rfl (any_of HT_.out (by kernel_rfl)) (fun _ _ _ h => h) (Or.inl ⟨by rfl, ?_⟩) ?_ ?_
              rotate_left
              ·intro w'
               go_simp
               with_reducible rfl
              rotate_left
              ·simp only [Act.put, List.setIfInBounds_toArray, List.set_cons_zero, List.set_cons_succ, i64_w, i32_w]
               rfl
              refine pure_ (i := 19) (N := some 188) (v := ?_) (a' := ?_) #[true, true, true, true, true, true, true, true, true, true, true, true, true, true, true, true, false, true, true, true, false, false, false, false, false, false, false, false, false, false, false, false, false, false, false, false, false, false] rfl rfl (any_of HT_.out (by kernel_rfl)) (fun _ _ _ h => h) (Or.inl ⟨by rfl, ?_⟩) ?_ ?_
              rotate_left
              ·intro w'
               go_simp
               with_reducible rfl
              rotate_left
              ·simp only [Act.put, List.setIfInBounds_toArray, List.set_cons_zero, List.set_cons_succ, i64_w, i32_w]
               rfl
              refine pure_ (i := 20) (N := some 189) (v := ?_) (a' := ?_) #[true, true, true, true, true, true, true, true, true, true, true, true, true, true, true, true, false, true, true, true, true, false, false, false, false, false, false, false, false, false, false, false, false, false, false, false, false, false] rfl rfl (any_of HT_.out (by kernel_rfl)) (fun _ _ _ h => h) (Or.inl ⟨by rfl, ?_⟩) ?_ ?_
              rotate_left
              ·intro w'
               go_simp
               with_reducible rfl
              rotate_left
              ·simp only [Act.put, List.setIfInBounds_toArray, List.set_cons_zero, List.set_cons_succ, i64_w, i32_w]
               rfl
              refine take_ (i := 16) (N := some 185) (v := ?_) (a' := ?_) mk_38_21 rfl rfl (take_ofW HT_.out HW_.out (by kernel_rfl)) (fun _ _ _ h => h) (Or.inl ⟨by rfl, ?_⟩) hHeld ?_ ?_
              rotate_left
              ·rintro w' ⟨s0, s1, s2, s3, s4, s5, s6, s7, s8, s9, s10, s11, s12, s13, s14, s15, s16, s17⟩
               go_simp
               with_reducible rfl
              rotate_left
              ·simp only [Act.put, List.setIfInBounds_toArray, List.set_cons_zero, List.set_cons_succ, i64_w, i32_w]
               rfl
              refine take_ (i := 21) (N := some 190) (v := ?_) (a' := ?_) mk_38_22 rfl rfl (take_ofW HT_.out HW_.out (by kernel_rfl)) (fun _ _ _ h => h) (Or.inl ⟨by rfl, ?_⟩) hHeld ?_ ?_
              rotate_left
              ·rintro w' ⟨s0, s1, s2, s3, s4, s5, s6, s7, s8, s9, s10, s11, s12, s13, s14, s15, s16, s17⟩
               go_simp
               with_reducible rfl
              rotate_left
              ·simp only [Act.put, List.setIfInBounds_toArray, List.set_cons_zero, List.set_cons_succ, i64_w, i32_w]
               rfl
              refine pure_ (i := 22) (N := some 191) (v := ?_) (a' := ?_) mk_38_23 rfl rfl (any_of HT_.out (by kernel_rfl)) (fun _ _ _ h => h) (Or.inl ⟨by rfl, ?_⟩) ?_ ?_
              rotate_left
              ·intro w'
               go_simp
               with_reducible rfl
              rotate_left
              ·simp only [Act.put, List.setIfInBounds_toArray, List.set_cons_zero, List.set_cons_succ, i64_w, i32_w]
               rfl
              refine pure_ (i := 23) (N := some 192) (v := ?_) (a' := ?_) mk_38_24 rfl rfl (any_of HT_.out (by kernel_rfl)) (fun _ _ _ h => h) (Or.inl ⟨by rfl, ?_⟩) ?_ ?_
              rotate_left
              ·intro w'
               go_simp
               with_reducible rfl
              rotate_left
              ·simp only [Act.put, List.setIfInBounds_toArray, List.set_cons_zero, List.set_cons_succ, i64_w, i32_w]
               rfl
              refine pure_ (i := 24) (N := some 193) (v := ?_) (a' := ?_) mk_38_25 rfl rfl (any_of HT_.out (by kernel_rfl)) (fun _ _ _ h => h) (Or.inl ⟨by rfl, ?_⟩) ?_ ?_
              rotate_left
              ·intro w'
               go_simp
               with_reducible rfl
              rotate_left
              ·simp only [Act.put, List.setIfInBounds_toArray, List.set_cons_zero, List.set_cons_succ, i64_w, i32_w]
               rfl
              refine pure_ (i := 25) (N := some 194) (v := ?_) (a' := ?_) mk_38_26 rfl rfl (any_of HT_.out (by kernel_rfl)) (fun _ _ _ h => h) (Or.inl ⟨by rfl, ?_⟩) ?_ ?_
              rotate_left
              ·intro w'
               go_simp
               with_reducible rfl
              rotate_left
              ·simp only [Act.put, List.setIfInBounds_toArray, List.set_cons_zero, List.set_cons_succ, i64_w, i32_w]
               rfl
              refine pure_ (i := 26) (N := some 195) (v := ?_) (a' := ?_) mk_38_27 rfl rfl (any_of HT_.out (by kernel_rfl)) (fun _ _ _ h => h) (Or.inl ⟨by rfl, ?_⟩) ?_ ?_
              rotate_left
              ·intro w'
               go_simp
               with_reducible rfl
              rotate_left
              ·simp only [Act.put, List.setIfInBounds_toArray, List.set_cons_zero, List.set_cons_succ, i64_w, i32_w]
               rfl
              refine pure_ (i := 27) (N := some 196) (v := ?_) (a' := ?_) mk_38_28 rfl rfl (any_of HT_.out (by kernel_rfl)) (fun _ _ _ h => h) (Or.inl ⟨by rfl, ?_⟩) ?_ ?_
              rotate_left
              ·intro w'
               go_simp
               with_reducible rfl
              rotate_left
              ·simp only [Act.put, List.setIfInBounds_toArray, List.set_cons_zero, List.set_cons_succ, i64_w, i32_w]
               rfl
              refine pure_ (i := 28) (N := some 197) (v := ?_) (a' := ?_) mk_38_29 rfl rfl (any_of HT_.out (by kernel_rfl)) (fun _ _ _ h => h) (Or.inl ⟨by rfl, ?_⟩) ?_ ?_
              rotate_left
              ·intro w'
               go_simp
               with_reducible rfl
              rotate_left
              ·simp only [Act.put, List.setIfInBounds_toArray, List.set_cons_zero, List.set_cons_succ, i64_w, i32_w]
               rfl
              refine pure_ (i := 30) (N := some 199) (v := ?_) (a' := ?_) #[true, true, true, true, true, true, true, true, true, true, true, true, true, true, true, true, true, true, true, true, true, true, true, true, true, true, true, true, true, false, true, false, false, false, false, false, false, false] rfl rfl (any_of HT_.out (by kernel_rfl)) (fun _ _ _ h => h) (Or.inl ⟨by rfl, ?_⟩) ?_ ?_
              rotate_left
              ·intro w'
               go_simp
               with_reducible rfl
              rotate_left
              ·simp only [Act.put, List.setIfInBounds_toArray, List.set_cons_zero, List.set_cons_succ, i64_w, i32_w]
               rfl
              refine pure_ (i := 31) (N := some 200) (v := ?_) (a' := ?_) #[true, true, true, true, true, true, true, true, true, true, true, true, true, true, true, true, true, true, true, true, true, true, true, true, true, true, true, true, true, false, true, true, false, false, false, false, false, false] rfl rfl (any_of HT_.out (by kernel_rfl)) (fun _ _ _ h => h) (Or.inl ⟨by rfl, ?_⟩) ?_ ?_
              rotate_left
              ·intro w'
               go_simp
               with_reducible rfl
              rotate_left
              ·simp only [Act.put, List.setIfInBounds_toArray, List.set_cons_zero, List.set_cons_succ, i64_w, i32_w]
               rfl
              refine pure_ (i := 32) (N := some 201) (v := ?_) (a' := ?_) #[true, true, true, true, true, true, true, true, true, true, true, true, true, true, true, true, true, true, true, true, true, true, true, true, true, true, true, true, true, false, true, true, true, false, false, false, false, false] rfl rfl (any_of HT_.out (by kernel_rfl)) (fun _ _ _ h => h) (Or.inl ⟨by rfl, ?_⟩) ?_ ?_
              rotate_left
              ·intro w'
               go_simp
               with_reducible rfl
              rotate_left
              ·simp only [Act.put, List.setIfInBounds_toArray, List.set_cons_zero, List.set_cons_succ, i64_w, i32_w]
               rfl
              refine pure_ (i := 33) (N := some 202) (v := ?_) (a' := ?_) #[true, true, true, true, true, true, true, true, true, true, true, true, true, true, true, true, true, true, true, true, true, true, true, true, true, true, true, true, true, false, true, true, true, true, false, false, false, false] rfl rfl (any_of HT_.out (by kernel_rfl)) (fun _ _ _ h => h) (Or.inl ⟨by rfl, ?_⟩) ?_ ?_
              rotate_left
              ·intro w'
               go_simp
               with_reducible rfl
              rotate_left
              ·simp only [Act.put, List.setIfInBounds_toArray, List.set_cons_zero, List.set_cons_succ, i64_w, i32_w]
               rfl
              refine take_ (i := 29) (N := some 198) (v := ?_) (a' := ?_) mk_38_34 rfl rfl (take_ofW HT_.out HW_.out (by kernel_rfl)) (fun _ _ _ h => h) (Or.inl ⟨by rfl, ?_⟩) hHeld ?_ ?_
              rotate_left
              ·rintro w' ⟨s0, s1, s2, s3, s4, s5, s6, s7, s8, s9, s10, s11, s12, s13, s14, s15, s16, s17⟩
               go_simp
               with_reducible rfl
              rotate_left
              ·simp only [Act.put, List.setIfInBounds_toArray, List.set_cons_zero, List.set_cons_succ, i64_w, i32_w]
               rfl
              refine take_ (i := 34) (N := some 203) (v := ?_) (a' := ?_) mk_38_35 rfl rfl (take_ofW HT_.out HW_.out (by kernel_rfl)) (fun _ _ _ h => h) (Or.inl ⟨by rfl, ?_⟩) hHeld ?_ ?_
              rotate_left
              ·rintro w' ⟨s0, s1, s2, s3, s4, s5, s6, s7, s8, s9, s10, s11, s12, s13, s14, s15, s16, s17⟩
               go_simp
               with_reducible rfl
              rotate_left
              ·simp only [Act.put, List.setIfInBounds_toArray, List.set_cons_zero, List.set_cons_succ, i64_w, i32_w]
               rfl
              refine pure_ (i := 35) (N := some 204) (v := ?_) (a' := ?_) mk_38_36 rfl rfl (any_of HT_.out (by kernel_rfl)) (fun _ _ _ h => h) (Or.inl ⟨by rfl, ?_⟩) ?_ ?_
              rotate_left
              ·intro w'
               go_simp
               with_reducible rfl
              rotate_left
              ·simp only [Act.put, List.setIfInBounds_toArray, List.set_cons_zero, List.set_cons_succ, i64_w, i32_w]
               rfl
              refine pure_ (i := 36) (N := some 205) (v := ?_) (a' := ?_) mk_38_37 rfl rfl (any_of HT_.out (by kernel_rfl)) (fun _ _ _ h => h) (Or.inl ⟨by rfl, ?_⟩) ?_ ?_
              rotate_left
              ·intro w'
               go_simp
               with_reducible rfl
              rotate_left
              ·simp only [Act.put, List.setIfInBounds_toArray, List.set_cons_zero, List.set_cons_succ, i64_w, i32_w]
               rfl
              refine pure_ (i := 37) (N := some 206) (v := ?_) (a' := ?_) mk_38_38 rfl rfl (any_of HT_.out (by kernel_rfl)) (fun _ _ _ h => h) (Or.inl ⟨by rfl, ?_⟩) ?_ ?_
              rotate_left
              ·intro w'
               go_simp
               with_reducible rfl
              rotate_left
              ·simp only [Act.put, List.setIfInBounds_toArray, List.set_cons_zero, List.set_cons_succ, i64_w, i32_w]
               rfl
              refine done_ (done_of HT_.out (by kernel_rfl)) ?_
              try go_wp2
              go_roundg k6
              case measure => have := HJ8.out; have := HK2.out; have := HK3.out; have := HJ109.out; have := HJ129.out; have := HK6.out; omega
              case rel => exact ⟨(wrap64 (x19_6 + 1)), (by first | rfl | (simp; done) | (simp [*]; done)), H', ⟨by have := HJ8.out; have := HK2.out; have := HK3.out; have := HJ109.out; have := HJ129.out; have := HK6.out; omega⟩, ⟨by (with_reducible repeat (first | apply Kd.S_alloc | apply Kd.S_drewN | apply Kd.S_drew)); exact HO_7.out⟩, ⟨by (with_reducible repeat (first | apply Kd.S_alloc | apply Kd.S_drewN | apply Kd.S_drew)); exact HO_17.out⟩, ⟨by (with_reducible repeat (first | refine blk_drewN ?_ _ | refine blk_drew ?_ | refine blk_alloc ?_ _)); exact BK204.out⟩, ⟨by (with_reducible repeat (first | refine blk_drewN ?_ _ | refine blk_drew ?_ | refine blk_alloc ?_ _)); exact BK211.out⟩, ⟨by (with_reducible repeat (first | refine blk_drewN ?_ _ | refine blk_drew ?_ | refine blk_alloc ?_ _)); exact BK216.out⟩, ⟨by repeat (first | (with_reducible first | exact HB.out | apply below_alloc | apply pw_below_drewN | apply below_drew1 | refine below_set ?_ GE204.out | refine below_set ?_ GE211.out | refine below_set ?_ GE216.out) | exact HB.out)⟩⟩
          ·rw [if_neg c142] at H
           have c142b0 : (((rd_T41 t217 x19_6).f0) == ((rd_T41 t206 x19_6).f0)) = false := beq_eq_false_iff_ne.mpr c142
           have c142b1 : (((rd_T41 t217 x19_6).f0) != ((rd_T41 t206 x19_6).f0)) = true := bne_iff_ne.mpr c142
           focus
            exact absurd (Option.some.inj H) (by rw [HT.out]; decide)
         ·rw [if_neg c141] at H
          exact absurd H (by simp)
        ·rw [if_neg c140] at H
         exact absurd H (by simp)
       ·rw [if_neg c139] at H
        have c139b0 : decide (x19_6 < (t206.length : Int)) = false := decide_eq_false c139
        clear c139
        focus
         obtain rfl := Option.some.inj H
         go_wp2
         go_ret
         exact ⟨by first | rfl | (simp [errW_none, errW_some] <;> rfl) | (simp only [← hji107]; first | rfl | (simp [errW_none, errW_some] <;> rfl)) | (simp [*, errW_none, errW_some] <;> rfl), by repeat (first | (with_reducible first | exact HB.out | apply below_alloc | apply pw_below_drewN | apply below_drew1 | refine below_set ?_ GE204.out | refine below_set ?_ GE211.out | refine below_set ?_ GE216.out) | exact HB.out)⟩
end Go.Proofs.Ytjbejbehbjhecaa.Q21n
namespace Go.Proofs.Ytjbejbehbjhecaa.Q21n
open Go.RowKit Go.Proofs.YtjbejbehbjhecaaW.PrintWords Go.Proofs.YtjbejbehbjhecaaW.PrintLast Go.Proofs.YtjbejbehbjhecaaW.PrintMore
attribute [local go_sem] max2_int min2_int max_two min_two max_three min_three max_four min_four   -- for this text's walks alone
set_option linter.unusedVariables false
set_option linter.unusedSimpArgs false

set_option maxHeartbeats 8000000 in
set_option maxRecDepth 100000 in
theorem watchwordlaw21_PathsTriangle.row : ∀ (k : Nat) (a0_0 a0_1 a0_2 a0_3 a0_4 a0_5 a0_6 a0_7 a0_8 a0_9 a0_10 a0_11 a0_12 a0_13 a0_14 a0_15 a1 a2 : Int) (r : Bool) (w : Go.World),
 Go.Program.underlying Try.prog 23 = some (Go.TypeDesc.array 4 22) →
 Go.Program.underlying Try.prog 44 = some (Go.TypeDesc.array 5 3) →
 Aside0 (r = true) →
 Aside0 (watchwordlaw21_awake.f k = some true) →
 ∀ (t206 : List S41) (t209 : Int),
 Aside0 (paths_Routes.f k a0_0 a0_1 a0_2 a0_3 a0_4 a0_5 a0_6 a0_7 a0_8 a0_9 a0_10 a0_11 a0_12 a0_13 a0_14 a0_15 a1 = some (t206, t209)) →
 ∀ (t210 : Int),
 Aside0 (watchwordlaw0_Num.f t209 = some t210) →
 let z1_ := Go.bodyPost Try.prog Try.f6 fun (e : Go.Ending) (w' : Go.World) => e = Go.Ending.returned (Go.Value.bool r) ∧ Below (Array.size (Go.World.heap w)) w w';
 ∀ (gb204 : Nat) (w10 : Go.World),
 Aside0 (Array.size (Go.World.heap w) ≤ gb204) →
 Aside0 (Array.size (Go.World.heap w) ≤ gb204) →
 ∀ (w11 w13 : Go.World),
 Aside0 ((Go.World.heap w13)[gb204]? = some (Go.Obj.cells #[Go.Value.int Go.IntKind.i64 a0_0, Go.Value.int Go.IntKind.i64 a0_1, Go.Value.int Go.IntKind.i64 a0_2, Go.Value.int Go.IntKind.i64 a0_3, Go.Value.int Go.IntKind.i64 a0_4, Go.Value.int Go.IntKind.i64 a0_5, Go.Value.int Go.IntKind.i64 a0_6, Go.Value.int Go.IntKind.i64 a0_7, Go.Value.int Go.IntKind.i64 a0_8, Go.Value.int Go.IntKind.i64 a0_9, Go.Value.int Go.IntKind.i64 a0_10, Go.Value.int Go.IntKind.i64 a0_11, Go.Value.int Go.IntKind.i64 a0_12, Go.Value.int Go.IntKind.i64 a0_13, Go.Value.int Go.IntKind.i64 a0_14, Go.Value.int Go.IntKind.i64 a0_15] 23)) →
 Aside0 (Below (Array.size (Go.World.heap w)) w w13) →
 ∀ (nd : Nat) (wc : Go.World) (u20 u21 u22 u23 u24 u25 u26 u27 u28 u29 u30 u31 u32 u33 u34 u35 u36 u37 u38 z4_ z5_ z6_ z7_ z8_ z9_ z10_ z11_ z12_ z13_ z14_ z15_ z16_ z17_ z18_ z19_ z20_ z21_ z22_ z23_ z24_ z25_ z26_ z27_ z28_ z29_ z30_ z31_ z32_ z33_ z34_ z35_ z36_ z37_ z38_ z39_ z40_ z41_ z42_ z43_ z44_ z45_ z46_ z47_ z48_ z49_ z50_ z51_ z52_ z53_ z54_ z55_ z56_ z57_ z58_ z59_ z60_ z61_ z62_ z63_ z64_ z65_ z66_ z67_ z68_ z69_ z70_ z71_ z72_ z73_ z74_ z75_ z76_ z77_ z78_ z79_ z80_ z81_ z82_ z83_ z84_ z85_ z86_ z87_ z88_ z89_ z90_ u127 u128 u129 u130 u131 u132 u133 u134 u135 u136 u137 u138 u139 u140 u141 u142 u143 u144 u145 u146 u147 u148 u149 u150 u151 u152 u153 u154 u155 u156 u157 u158 u159 u160 u161 u162 u163 u164 u165 u166 u167 u168 u169 u170 u171 u172 u173 u174 u175 u176 u177 u178 u179 u180 u181 u182 u183 u184 u185 u186 u187 u188 u189 u190 u191 u192 u193 u194 u195 u196 u197 u198 u199 u200 u201 u202 u203 u204 u205 u206 : Go.Value) (kj8 : Nat),
 Aside0 (kj8 + 1 ≤ k) →
 ∀ (gb211 : Nat) (w16 : Go.World),
 Aside0 ((Go.World.heap w16)[gb204]? = some (Go.Obj.cells #[Go.Value.int Go.IntKind.i64 a0_0, Go.Value.int Go.IntKind.i64 a0_1, Go.Value.int Go.IntKind.i64 a0_2, Go.Value.int Go.IntKind.i64 a0_3, Go.Value.int Go.IntKind.i64 a0_4, Go.Value.int Go.IntKind.i64 a0_5, Go.Value.int Go.IntKind.i64 a0_6, Go.Value.int Go.IntKind.i64 a0_7, Go.Value.int Go.IntKind.i64 a0_8, Go.Value.int Go.IntKind.i64 a0_9, Go.Value.int Go.IntKind.i64 a0_10, Go.Value.int Go.IntKind.i64 a0_11, Go.Value.int Go.IntKind.i64 a0_12, Go.Value.int Go.IntKind.i64 a0_13, Go.Value.int Go.IntKind.i64 a0_14, Go.Value.int Go.IntKind.i64 a0_15] 23)) →
 Aside0 (Below (Array.size (Go.World.heap w)) w w16) →
 Aside0 ((Go.World.heap w16)[gb211]? = some (Go.Obj.cells #[Go.Value.int Go.IntKind.i64 0, Go.Value.int Go.IntKind.i64 0, Go.Value.int Go.IntKind.i64 0, Go.Value.int Go.IntKind.i64 0, Go.Value.int Go.IntKind.i64 0] 44)) →
 Aside0 (Array.size (Go.World.heap w) ≤ gb211) →
 Aside0 (Array.size (Go.World.heap w) ≤ gb211) →
 Aside0 (gb204 ≠ gb211) →
 Aside0 (gb211 ≠ gb204) →
 ∀ (z94_ : Go.Act → Go.World → Prop) (z95_ : Go.World) (z96_ u40 u41 u42 u43 u44 u45 u46 u47 u48 u49 u50 u51 u52 u53 u54 u55 u56 u57 u58 u59 u60 u61 u62 u63 u64 u65 u66 u67 u68 u69 u70 : Go.Value) (z97_ : Nat → Go.Act → Go.World → Prop) (z98_ : Go.Act → Go.World → Prop) (x10_2 x212000_2 x212001_2 x212002_2 x212003_2 x212004_2 : Int),
 Aside0 ((Go.World.heap z95_)[gb204]? = some (Go.Obj.cells #[Go.Value.int Go.IntKind.i64 a0_0, Go.Value.int Go.IntKind.i64 a0_1, Go.Value.int Go.IntKind.i64 a0_2, Go.Value.int Go.IntKind.i64 a0_3, Go.Value.int Go.IntKind.i64 a0_4, Go.Value.int Go.IntKind.i64 a0_5, Go.Value.int Go.IntKind.i64 a0_6, Go.Value.int Go.IntKind.i64 a0_7, Go.Value.int Go.IntKind.i64 a0_8, Go.Value.int Go.IntKind.i64 a0_9, Go.Value.int Go.IntKind.i64 a0_10, Go.Value.int Go.IntKind.i64 a0_11, Go.Value.int Go.IntKind.i64 a0_12, Go.Value.int Go.IntKind.i64 a0_13, Go.Value.int Go.IntKind.i64 a0_14, Go.Value.int Go.IntKind.i64 a0_15] 23)) →
 Aside0 ((Go.World.heap z95_)[gb211]? = some (Go.Obj.cells #[Go.Value.int Go.IntKind.i64 x212000_2, Go.Value.int Go.IntKind.i64 x212001_2, Go.Value.int Go.IntKind.i64 x212002_2, Go.Value.int Go.IntKind.i64 x212003_2, Go.Value.int Go.IntKind.i64 x212004_2] 44)) →
 Aside0 (Below (Array.size (Go.World.heap w)) w z95_) →
 ∀ (k2 : Nat),
 (∀ (a' : Go.Act) (w' : Go.World), Go.Handed z97_ (k2 + 1) a' w' → z98_ a' w') →
 Aside0 (k2 + 1 ≤ kj8) →
 ∀ (Ao27 : Option Go.Addr) (co27 : Nat),
 Aside0 (Kd.S k41 41 w13 (Array.size (Go.World.heap w)) (fun (x : Nat) => True) (Go.Value.slice Ao27 (List.length t206) co27) t206) →
 Aside0 (Kd.S k41 41 w16 (Array.size (Go.World.heap w)) (fun (x : Nat) => True) (Go.Value.slice Ao27 (List.length t206) co27) t206) →
 (∀ (k : Nat) (a' : Go.Act) (w' : Go.World),
 (∃ (u6 : Go.Value),
 ∃ (u10 : Go.Value),
 ∃ (u40 : Go.Value),
 ∃ (u41 : Go.Value),
 ∃ (u42 : Go.Value),
 ∃ (u43 : Go.Value),
 ∃ (u44 : Go.Value),
 ∃ (u45 : Go.Value),
 ∃ (u46 : Go.Value),
 ∃ (u47 : Go.Value),
 ∃ (u48 : Go.Value),
 ∃ (u49 : Go.Value),
 ∃ (u50 : Go.Value),
 ∃ (u51 : Go.Value),
 ∃ (u52 : Go.Value),
 ∃ (u53 : Go.Value),
 ∃ (u54 : Go.Value),
 ∃ (u55 : Go.Value),
 ∃ (u56 : Go.Value),
 ∃ (u57 : Go.Value),
 ∃ (u58 : Go.Value),
 ∃ (u59 : Go.Value),
 ∃ (u60 : Go.Value),
 ∃ (u61 : Go.Value),
 ∃ (u62 : Go.Value),
 ∃ (u63 : Go.Value),
 ∃ (u64 : Go.Value),
 ∃ (u65 : Go.Value),
 ∃ (u66 : Go.Value),
 ∃ (u67 : Go.Value),
 ∃ (u68 : Go.Value),
 ∃ (u69 : Go.Value),
 ∃ (u70 : Go.Value),
 (∃ (x10_2 : Int), ∃ (x212000_2 : Int), ∃ (x212001_2 : Int), ∃ (x212002_2 : Int), ∃ (x212003_2 : Int), ∃ (x212004_2 : Int), u10 = Go.Value.int Go.IntKind.i64 x10_2 ∧ Aside0 (watchwordlaw21_PathsTriangle.l0 k a1 a2 t206 x10_2 a0_0 a0_1 a0_2 a0_3 a0_4 a0_5 a0_6 a0_7 a0_8 a0_9 a0_10 a0_11 a0_12 a0_13 a0_14 a0_15 x212000_2 x212001_2 x212002_2 x212003_2 x212004_2 = some r) ∧ Aside0 (k ≤ kj8) ∧ Aside0 (Kd.S k41 41 w' (Array.size (Go.World.heap w)) (fun (x : Nat) => True) (Go.Value.slice Ao27 (List.length t206) co27) t206) ∧ Aside0 ((Go.World.heap w')[gb204]? = some (Go.Obj.cells #[Go.Value.int Go.IntKind.i64 a0_0, Go.Value.int Go.IntKind.i64 a0_1, Go.Value.int Go.IntKind.i64 a0_2, Go.Value.int Go.IntKind.i64 a0_3, Go.Value.int Go.IntKind.i64 a0_4, Go.Value.int Go.IntKind.i64 a0_5, Go.Value.int Go.IntKind.i64 a0_6, Go.Value.int Go.IntKind.i64 a0_7, Go.Value.int Go.IntKind.i64 a0_8, Go.Value.int Go.IntKind.i64 a0_9, Go.Value.int Go.IntKind.i64 a0_10, Go.Value.int Go.IntKind.i64 a0_11, Go.Value.int Go.IntKind.i64 a0_12, Go.Value.int Go.IntKind.i64 a0_13, Go.Value.int Go.IntKind.i64 a0_14, Go.Value.int Go.IntKind.i64 a0_15] 23)) ∧ Aside0 ((Go.World.heap w')[gb211]? = some (Go.Obj.cells #[Go.Value.int Go.IntKind.i64 x212000_2, Go.Value.int Go.IntKind.i64 x212001_2, Go.Value.int Go.IntKind.i64 x212002_2, Go.Value.int Go.IntKind.i64 x212003_2, Go.Value.int Go.IntKind.i64 x212004_2] 44)) ∧ Aside0 (Below (Array.size (Go.World.heap w)) w w')) ∧
 a' = { tmps := #[Go.Value.agg #[Go.Value.int Go.IntKind.i64 a0_0, Go.Value.int Go.IntKind.i64 a0_1, Go.Value.int Go.IntKind.i64 a0_2, Go.Value.int Go.IntKind.i64 a0_3, Go.Value.int Go.IntKind.i64 a0_4, Go.Value.int Go.IntKind.i64 a0_5, Go.Value.int Go.IntKind.i64 a0_6, Go.Value.int Go.IntKind.i64 a0_7, Go.Value.int Go.IntKind.i64 a0_8, Go.Value.int Go.IntKind.i64 a0_9, Go.Value.int Go.IntKind.i64 a0_10, Go.Value.int Go.IntKind.i64 a0_11, Go.Value.int Go.IntKind.i64 a0_12, Go.Value.int Go.IntKind.i64 a0_13, Go.Value.int Go.IntKind.i64 a0_14, Go.Value.int Go.IntKind.i64 a0_15], Go.Value.int Go.IntKind.i64 a1, Go.Value.int Go.IntKind.i64 a2, Go.Value.pointer (some { block := gb204, off := 0 }), Go.undef, Go.undef, u6, Go.Value.slice Ao27 (List.length t206) co27, Go.Value.int Go.IntKind.i64 t209, Go.Value.pointer (some { block := gb211, off := 0 }), u10, Go.undef, Go.undef, Go.undef, Go.undef, Go.undef, Go.undef, Go.undef, Go.undef, Go.undef, u20, u21, u22, u23, u24, u25, u26, u27, u28, u29, u30, u31, u32, u33, u34, u35, u36, u37, u38, Go.Value.bool false, u40, u41, u42, u43, u44, u45, u46, u47, u48, u49, u50, u51, u52, u53, u54, u55, u56, u57, u58, u59, u60, u61, u62, u63, u64, u65, u66, u67, u68, u69, u70, z35_, z36_, z37_, z38_, z39_, z40_, z41_, z42_, z43_, z44_, z45_, z46_, z47_, z48_, z49_, z50_, z51_, z52_, z53_, z54_, z55_, z56_, z57_, z58_, z59_, z60_, z61_, z62_, z63_, z64_, z65_, z66_, z67_, z68_, z69_, z70_, z71_, z72_, z73_, z74_, z75_, z76_, z77_, z78_, z79_, z80_, z81_, z82_, z83_, z84_, z85_, z86_, z87_, z88_, z89_, z90_, u127, u128, u129, u130, u131, u132, u133, u134, u135, u136, u137, u138, u139, u140, u141, u142, u143, u144, u145, u146, u147, u148, u149, u150, u151, u152, u153, u154, u155, u156, u157, u158, u159, u160, u161, u162, u163, u164, u165, u166, u167, u168, u169, u170, u171, u172, u173, u174, u175, u176, u177, u178, u179, u180, u181, u182, u183, u184, u185, u186, u187, u188, u189, u190, u191, u192, u193, u194, u195, u196, u197, u198, u199, u200, u201, u202, u203, u204, u205, u206], defers := [] }) →
 z97_ k a' w') →
 Aside0 (Kd.S k41 41 z95_ (Array.size (Go.World.heap w)) (fun (x : Nat) => True) (Go.Value.slice Ao27 (List.length t206) co27) t206) →
 ∀ (z106_ : Go.Act → Go.World → Prop),
 (∀ (a : Go.Act) (w : Go.World),
 Go.Code.wp Try.prog
 (Go.Code.seq
 (Go.Code.block 1
 (Go.Code.seq (Go.Code.seq (Go.Code.region 12 #[{ dst := some 46, op := Go.Op.move (Go.Operand.tmp 7), type := 24, pos := "more.go:38", after := #[], guard := none }, { dst := some 47, op := Go.Op.move (Go.Operand.tmp 10), type := 3, pos := "more.go:38", after := #[], guard := none }, { dst := some 48, op := Go.Op.indexAddr 24 (Go.Operand.tmp 46) (Go.Operand.tmp 47), type := 0, pos := "more.go:38", after := #[{ on := 0, ground := Go.Ground.data }, { on := 1, ground := Go.Ground.data }], guard := none }, { dst := some 49, op := Go.Op.fieldAddr 41 (Go.Operand.tmp 48) 0, type := 0, pos := "more.go:38", after := #[{ on := 2, ground := Go.Ground.data }], guard := none }, { dst := some 50, op := Go.Op.load 3 (Go.Operand.tmp 49), type := 3, pos := "more.go:38", after := #[{ on := 3, ground := Go.Ground.data }], guard := none }, { dst := some 51, op := Go.Op.binOp Go.BinOp.lss 3 (Go.Operand.tmp 50) (Go.Operand.const (Go.Value.int Go.IntKind.i64 1)) 3, type := 4, pos := "more.go:38", after := #[{ on := 4, ground := Go.Ground.data }], guard := none }, { dst := some 52, op := Go.Op.move (Go.Operand.tmp 51), type := 4, pos := "more.go:38", after := #[{ on := 5, ground := Go.Ground.data }], guard := none }, { dst := some 53, op := Go.Op.move (Go.Operand.tmp 7), type := 24, pos := "more.go:38", after := #[{ on := 6, ground := Go.Ground.guard }], guard := some (6, false) }, { dst := some 54, op := Go.Op.move (Go.Operand.tmp 10), type := 3, pos := "more.go:38", after := #[{ on := 6, ground := Go.Ground.guard }], guard := some (6, false) }, { dst := some 55, op := Go.Op.indexAddr 24 (Go.Operand.tmp 53) (Go.Operand.tmp 54), type := 0, pos := "more.go:38", after := #[{ on := 7, ground := Go.Ground.data }, { on := 8, ground := Go.Ground.data }, { on := 6, ground := Go.Ground.guard }], guard := some (6, false) }, { dst := some 56, op := Go.Op.fieldAddr 41 (Go.Operand.tmp 55) 0, type := 0, pos := "more.go:38", after := #[{ on := 9, ground := Go.Ground.data }, { on := 6, ground := Go.Ground.guard }], guard := some (6, false) }, { dst := some 57, op := Go.Op.load 3 (Go.Operand.tmp 56), type := 3, pos := "more.go:38", after := #[{ on := 10, ground := Go.Ground.data }, { on := 6, ground := Go.Ground.guard }], guard := some (6, false) }, { dst := some 58, op := Go.Op.binOp Go.BinOp.gtr 3 (Go.Operand.tmp 57) (Go.Operand.const (Go.Value.int Go.IntKind.i64 4)) 3, type := 4, pos := "more.go:38", after := #[{ on := 11, ground := Go.Ground.data }, { on := 6, ground := Go.Ground.guard }], guard := some (6, false) }, { dst := some 59, op := Go.Op.pick (Go.Operand.tmp 52) (Go.Operand.const (Go.Value.bool true)) (Go.Operand.tmp 58), type := 4, pos := "more.go:38", after := #[{ on := 6, ground := Go.Ground.data }, { on := 12, ground := Go.Ground.data }], guard := none }] false) (Go.Code.cond (Go.Operand.tmp 59) (Go.Code.seq (Go.Code.region 13 #[{ dst := some 6, op := Go.Op.assign (Go.Operand.const (Go.Value.bool false)), type := 4, pos := "more.go:39", after := #[], guard := none }] false) Go.Code.ret) Go.Code.skip))
 (Go.Code.region 14 #[{ dst := some 60, op := Go.Op.move (Go.Operand.tmp 7), type := 24, pos := "more.go:41", after := #[], guard := none }, { dst := some 61, op := Go.Op.move (Go.Operand.tmp 10), type := 3, pos := "more.go:41", after := #[], guard := none }, { dst := some 62, op := Go.Op.indexAddr 24 (Go.Operand.tmp 60) (Go.Operand.tmp 61), type := 0, pos := "more.go:41", after := #[{ on := 0, ground := Go.Ground.data }, { on := 1, ground := Go.Ground.data }], guard := none }, { dst := some 63, op := Go.Op.fieldAddr 41 (Go.Operand.tmp 62) 0, type := 0, pos := "more.go:41", after := #[{ on := 2, ground := Go.Ground.data }], guard := none }, { dst := some 64, op := Go.Op.load 3 (Go.Operand.tmp 63), type := 3, pos := "more.go:41", after := #[{ on := 3, ground := Go.Ground.data }], guard := none }, { dst := some 65, op := Go.Op.move (Go.Operand.tmp 7), type := 24, pos := "more.go:41", after := #[], guard := none }, { dst := some 66, op := Go.Op.move (Go.Operand.tmp 10), type := 3, pos := "more.go:41", after := #[], guard := none }, { dst := some 67, op := Go.Op.indexAddr 24 (Go.Operand.tmp 65) (Go.Operand.tmp 66), type := 0, pos := "more.go:41", after := #[{ on := 5, ground := Go.Ground.data }, { on := 6, ground := Go.Ground.data }], guard := none }, { dst := some 68, op := Go.Op.fieldAddr 41 (Go.Operand.tmp 67) 1, type := 0, pos := "more.go:41", after := #[{ on := 7, ground := Go.Ground.data }], guard := none }, { dst := some 69, op := Go.Op.load 3 (Go.Operand.tmp 68), type := 3, pos := "more.go:41", after := #[{ on := 8, ground := Go.Ground.data }], guard := none }, { dst := some 70, op := Go.Op.indexAddr 44 (Go.Operand.tmp 9) (Go.Operand.tmp 64), type := 0, pos := "more.go:41", after := #[{ on := 4, ground := Go.Ground.data }, { on := 0, ground := Go.Ground.phase }, { on := 1, ground := Go.Ground.phase }, { on := 2, ground := Go.Ground.phase }, { on := 3, ground := Go.Ground.phase }, { on := 4, ground := Go.Ground.phase }, { on := 5, ground := Go.Ground.phase }, { on := 6, ground := Go.Ground.phase }, { on := 7, ground := Go.Ground.phase }, { on := 8, ground := Go.Ground.phase }, { on := 9, ground := Go.Ground.phase }], guard := none }, { dst := none, op := Go.Op.store 3 (Go.Operand.tmp 70) (Go.Operand.tmp 69), type := 0, pos := "more.go:41", after := #[{ on := 10, ground := Go.Ground.data }, { on := 9, ground := Go.Ground.data }, { on := 0, ground := Go.Ground.phase }, { on := 1, ground := Go.Ground.phase }, { on := 2, ground := Go.Ground.phase }, { on := 3, ground := Go.Ground.phase }, { on := 4, ground := Go.Ground.phase }, { on := 5, ground := Go.Ground.phase }, { on := 6, ground := Go.Ground.phase }, { on := 7, ground := Go.Ground.phase }, { on := 8, ground := Go.Ground.phase }, { on := 9, ground := Go.Ground.phase }], guard := none }] true)))
 (Go.Code.region 11 #[{ dst := some 44, op := Go.Op.move (Go.Operand.tmp 10), type := 3, pos := "more.go:37", after := #[], guard := none }, { dst := some 45, op := Go.Op.binOp Go.BinOp.add 3 (Go.Operand.tmp 44) (Go.Operand.const (Go.Value.int Go.IntKind.i64 1)) 3, type := 3, pos := "more.go:37", after := #[{ on := 0, ground := Go.Ground.data }], guard := none }, { dst := some 10, op := Go.Op.assign (Go.Operand.tmp 45), type := 3, pos := "more.go:37", after := #[{ on := 1, ground := Go.Ground.data }, { on := 0, ground := Go.Ground.phase }, { on := 1, ground := Go.Ground.phase }], guard := none }] false))
 (Go.Exit.then z98_ (Go.Exit.inBlock 0 (Go.Exit.then z94_ z1_))) a w →
 z106_ a w) →
 ∀ (z108_ : Go.Act → Go.World → Prop),
 (∀ (a : Go.Act) (w : Go.World),
 Go.Code.wp Try.prog
 (Go.Code.seq (Go.Code.region 24 #[{ dst := some 127, op := Go.Op.load 23 (Go.Operand.tmp 3), type := 23, pos := "more.go:51", after := #[], guard := none }, { dst := some 14, op := Go.Op.alloc 23, type := 0, pos := "more.go:51", after := #[], guard := none }, { dst := none, op := Go.Op.store 23 (Go.Operand.tmp 14) (Go.Operand.tmp 127), type := 0, pos := "more.go:51", after := #[{ on := 1, ground := Go.Ground.data }, { on := 0, ground := Go.Ground.data }, { on := 0, ground := Go.Ground.phase }, { on := 1, ground := Go.Ground.phase }], guard := none }] false)
 (Go.Code.seq (Go.Code.region 25 #[{ dst := some 128, op := Go.Op.move (Go.Operand.tmp 2), type := 3, pos := "more.go:52", after := #[], guard := none }, { dst := some 129, op := Go.Op.binOp Go.BinOp.and 3 (Go.Operand.tmp 128) (Go.Operand.const (Go.Value.int Go.IntKind.i64 3)) 3, type := 3, pos := "more.go:52", after := #[{ on := 0, ground := Go.Ground.data }], guard := none }, { dst := some 130, op := Go.Op.move (Go.Operand.tmp 2), type := 3, pos := "more.go:52", after := #[{ on := 5, ground := Go.Ground.gcOnly Go.Departure.lateStores }], guard := none }, { dst := some 131, op := Go.Op.binOp Go.BinOp.shr 3 (Go.Operand.tmp 130) (Go.Operand.const (Go.Value.int Go.IntKind.u64 2)) 42, type := 3, pos := "more.go:52", after := #[{ on := 2, ground := Go.Ground.data }, { on := 5, ground := Go.Ground.gcOnly Go.Departure.lateStores }], guard := none }, { dst := some 132, op := Go.Op.binOp Go.BinOp.and 3 (Go.Operand.tmp 131) (Go.Operand.const (Go.Value.int Go.IntKind.i64 3)) 3, type := 3, pos := "more.go:52", after := #[{ on := 3, ground := Go.Ground.data }, { on := 5, ground := Go.Ground.gcOnly Go.Departure.lateStores }], guard := none }, { dst := some 15, op := Go.Op.assign (Go.Operand.tmp 129), type := 3, pos := "more.go:52", after := #[{ on := 1, ground := Go.Ground.data }, { on := 0, ground := Go.Ground.phase }, { on := 1, ground := Go.Ground.phase }, { on := 2, ground := Go.Ground.textOnly Go.Departure.lateStores }, { on := 3, ground := Go.Ground.textOnly Go.Departure.lateStores }, { on := 4, ground := Go.Ground.textOnly Go.Departure.lateStores }], guard := none }, { dst := some 16, op := Go.Op.assign (Go.Operand.tmp 132), type := 3, pos := "more.go:52", after := #[{ on := 4, ground := Go.Ground.data }, { on := 5, ground := Go.Ground.chain }, { on := 0, ground := Go.Ground.phase }, { on := 1, ground := Go.Ground.phase }, { on := 2, ground := Go.Ground.phase }, { on := 3, ground := Go.Ground.phase }, { on := 4, ground := Go.Ground.phase }, { on := 5, ground := Go.Ground.phase }], guard := none }] false)
 (Go.Code.seq (Go.Code.seq (Go.Code.region 26 #[{ dst := some 133, op := Go.Op.move (Go.Operand.tmp 15), type := 3, pos := "more.go:53", after := #[], guard := none }, { dst := some 134, op := Go.Op.move (Go.Operand.tmp 16), type := 3, pos := "more.go:53", after := #[], guard := none }, { dst := some 135, op := Go.Op.indexAddr 23 (Go.Operand.tmp 14) (Go.Operand.tmp 133), type := 0, pos := "more.go:53", after := #[{ on := 0, ground := Go.Ground.data }], guard := none }, { dst := some 136, op := Go.Op.indexAddr 22 (Go.Operand.tmp 135) (Go.Operand.tmp 134), type := 0, pos := "more.go:53", after := #[{ on := 2, ground := Go.Ground.data }, { on := 1, ground := Go.Ground.data }], guard := none }, { dst := some 137, op := Go.Op.load 3 (Go.Operand.tmp 136), type := 3, pos := "more.go:53", after := #[{ on := 3, ground := Go.Ground.data }], guard := none }, { dst := some 138, op := Go.Op.binOp Go.BinOp.gtr 3 (Go.Operand.tmp 137) (Go.Operand.const (Go.Value.int Go.IntKind.i64 1)) 3, type := 4, pos := "more.go:53", after := #[{ on := 4, ground := Go.Ground.data }], guard := none }] false) (Go.Code.cond (Go.Operand.tmp 138) (Go.Code.region 27 #[{ dst := some 139, op := Go.Op.move (Go.Operand.tmp 15), type := 3, pos := "more.go:54", after := #[], guard := none }, { dst := some 140, op := Go.Op.move (Go.Operand.tmp 16), type := 3, pos := "more.go:54", after := #[], guard := none }, { dst := some 141, op := Go.Op.indexAddr 23 (Go.Operand.tmp 14) (Go.Operand.tmp 139), type := 0, pos := "more.go:54", after := #[{ on := 0, ground := Go.Ground.data }], guard := none }, { dst := some 142, op := Go.Op.indexAddr 22 (Go.Operand.tmp 141) (Go.Operand.tmp 140), type := 0, pos := "more.go:54", after := #[{ on := 2, ground := Go.Ground.data }, { on := 1, ground := Go.Ground.data }], guard := none }, { dst := some 143, op := Go.Op.load 3 (Go.Operand.tmp 142), type := 3, pos := "more.go:54", after := #[{ on := 3, ground := Go.Ground.data }], guard := none }, { dst := some 144, op := Go.Op.binOp Go.BinOp.sub 3 (Go.Operand.tmp 143) (Go.Operand.const (Go.Value.int Go.IntKind.i64 1)) 3, type := 3, pos := "more.go:54", after := #[{ on := 4, ground := Go.Ground.data }], guard := none }, { dst := some 145, op := Go.Op.indexAddr 23 (Go.Operand.tmp 14) (Go.Operand.tmp 139), type := 0, pos := "more.go:54", after := #[{ on := 0, ground := Go.Ground.data }], guard := none }, { dst := some 146, op := Go.Op.indexAddr 22 (Go.Operand.tmp 145) (Go.Operand.tmp 140), type := 0, pos := "more.go:54", after := #[{ on := 6, ground := Go.Ground.data }, { on := 1, ground := Go.Ground.data }, { on := 0, ground := Go.Ground.phase }, { on := 1, ground := Go.Ground.phase }, { on := 2, ground := Go.Ground.phase }, { on := 3, ground := Go.Ground.phase }, { on := 4, ground := Go.Ground.phase }, { on := 5, ground := Go.Ground.phase }], guard := none }, { dst := none, op := Go.Op.store 3 (Go.Operand.tmp 146) (Go.Operand.tmp 144), type := 0, pos := "more.go:54", after := #[{ on := 7, ground := Go.Ground.data }, { on := 5, ground := Go.Ground.data }, { on := 0, ground := Go.Ground.phase }, { on := 1, ground := Go.Ground.phase }, { on := 2, ground := Go.Ground.phase }, { on := 3, ground := Go.Ground.phase }, { on := 4, ground := Go.Ground.phase }, { on := 5, ground := Go.Ground.phase }], guard := none }] true) Go.Code.skip))
 (Go.Code.seq (Go.Code.region 28 #[{ dst := some 148, op := Go.Op.load 23 (Go.Operand.tmp 14), type := 23, pos := "more.go:56", after := #[], guard := none }, { dst := some 149, op := Go.Op.move (Go.Operand.tmp 1), type := 3, pos := "more.go:56", after := #[], guard := none }, { dst := some 150, op := Go.Op.call { callee := Go.Callee.value (Go.Operand.func 13), args := #[Go.Operand.tmp 148, Go.Operand.tmp 149], argTypes := #[23, 3] }, type := 26, pos := "more.go:56", after := #[{ on := 0, ground := Go.Ground.data }, { on := 1, ground := Go.Ground.data }], guard := none }, { dst := some 147, op := Go.Op.move (Go.Operand.tmp 150), type := 26, pos := "more.go:56", after := #[{ on := 2, ground := Go.Ground.data }], guard := none }, { dst := some 151, op := Go.Op.extract (Go.Operand.tmp 147) 0, type := 24, pos := "more.go:56", after := #[{ on := 3, ground := Go.Ground.data }], guard := none }, { dst := some 152, op := Go.Op.extract (Go.Operand.tmp 147) 1, type := 25, pos := "more.go:56", after := #[{ on := 3, ground := Go.Ground.data }, { on := 6, ground := Go.Ground.gcOnly Go.Departure.lateStores }], guard := none }, { dst := some 17, op := Go.Op.assign (Go.Operand.tmp 151), type := 24, pos := "more.go:56", after := #[{ on := 4, ground := Go.Ground.data }, { on := 2, ground := Go.Ground.chain }, { on := 0, ground := Go.Ground.phase }, { on := 1, ground := Go.Ground.phase }, { on := 2, ground := Go.Ground.phase }, { on := 3, ground := Go.Ground.phase }, { on := 4, ground := Go.Ground.phase }, { on := 5, ground := Go.Ground.textOnly Go.Departure.lateStores }], guard := none }, { dst := some 18, op := Go.Op.assign (Go.Operand.tmp 152), type := 25, pos := "more.go:56", after := #[{ on := 5, ground := Go.Ground.data }, { on := 6, ground := Go.Ground.chain }, { on := 0, ground := Go.Ground.phase }, { on := 1, ground := Go.Ground.phase }, { on := 2, ground := Go.Ground.phase }, { on := 3, ground := Go.Ground.phase }, { on := 4, ground := Go.Ground.phase }, { on := 5, ground := Go.Ground.phase }, { on := 6, ground := Go.Ground.phase }], guard := none }] false)
 (Go.Code.seq (Go.Code.seq (Go.Code.region 29 #[{ dst := some 153, op := Go.Op.move (Go.Operand.tmp 18), type := 25, pos := "more.go:57", after := #[], guard := none }, { dst := some 154, op := Go.Op.call { callee := Go.Callee.value (Go.Operand.func 16), args := #[Go.Operand.tmp 153], argTypes := #[25] }, type := 3, pos := "more.go:57", after := #[{ on := 0, ground := Go.Ground.data }], guard := none }, { dst := some 155, op := Go.Op.binOp Go.BinOp.neq 3 (Go.Operand.tmp 154) (Go.Operand.const (Go.Value.int Go.IntKind.i64 0)) 3, type := 4, pos := "more.go:57", after := #[{ on := 1, ground := Go.Ground.data }], guard := none }, { dst := some 156, op := Go.Op.move (Go.Operand.tmp 155), type := 4, pos := "more.go:57", after := #[{ on := 2, ground := Go.Ground.data }, { on := 1, ground := Go.Ground.chain }], guard := none }, { dst := some 157, op := Go.Op.move (Go.Operand.tmp 17), type := 24, pos := "more.go:57", after := #[{ on := 3, ground := Go.Ground.guard }], guard := some (3, false) }, { dst := some 158, op := Go.Op.call { callee := Go.Callee.builtin Go.Builtin.len, args := #[Go.Operand.tmp 157], argTypes := #[24] }, type := 3, pos := "more.go:57", after := #[{ on := 4, ground := Go.Ground.data }, { on := 3, ground := Go.Ground.guard }], guard := some (3, false) }, { dst := some 159, op := Go.Op.move (Go.Operand.tmp 7), type := 24, pos := "more.go:57", after := #[{ on := 3, ground := Go.Ground.guard }], guard := some (3, false) }, { dst := some 160, op := Go.Op.call { callee := Go.Callee.builtin Go.Builtin.len, args := #[Go.Operand.tmp 159], argTypes := #[24] }, type := 3, pos := "more.go:57", after := #[{ on := 6, ground := Go.Ground.data }, { on := 3, ground := Go.Ground.guard }], guard := some (3, false) }, { dst := some 161, op := Go.Op.binOp Go.BinOp.neq 3 (Go.Operand.tmp 158) (Go.Operand.tmp 160) 3, type := 4, pos := "more.go:57", after := #[{ on := 5, ground := Go.Ground.data }, { on := 7, ground := Go.Ground.data }, { on := 3, ground := Go.Ground.guard }], guard := some (3, false) }, { dst := some 162, op := Go.Op.pick (Go.Operand.tmp 156) (Go.Operand.const (Go.Value.bool true)) (Go.Operand.tmp 161), type := 4, pos := "more.go:57", after := #[{ on := 3, ground := Go.Ground.data }, { on := 8, ground := Go.Ground.data }], guard := none }] false) (Go.Code.cond (Go.Operand.tmp 162) (Go.Code.seq (Go.Code.region 30 #[{ dst := some 6, op := Go.Op.assign (Go.Operand.const (Go.Value.bool false)), type := 4, pos := "more.go:58", after := #[], guard := none }] false) Go.Code.ret) Go.Code.skip))
 (Go.Code.seq
 (Go.Code.seq (Go.Code.region 31 #[{ dst := some 19, op := Go.Op.assign (Go.Operand.const (Go.Value.int Go.IntKind.i64 0)), type := 3, pos := "more.go:60", after := #[], guard := none }] false)
 (Go.Code.block 6
 (Go.Code.loop
 (Go.Code.seq (Go.Code.seq (Go.Code.region 32 #[{ dst := some 163, op := Go.Op.move (Go.Operand.tmp 19), type := 3, pos := "more.go:60", after := #[], guard := none }, { dst := some 164, op := Go.Op.move (Go.Operand.tmp 7), type := 24, pos := "more.go:60", after := #[], guard := none }, { dst := some 165, op := Go.Op.call { callee := Go.Callee.builtin Go.Builtin.len, args := #[Go.Operand.tmp 164], argTypes := #[24] }, type := 3, pos := "more.go:60", after := #[{ on := 1, ground := Go.Ground.data }], guard := none }, { dst := some 166, op := Go.Op.binOp Go.BinOp.lss 3 (Go.Operand.tmp 163) (Go.Operand.tmp 165) 3, type := 4, pos := "more.go:60", after := #[{ on := 0, ground := Go.Ground.data }, { on := 2, ground := Go.Ground.data }], guard := none }] false) (Go.Code.cond (Go.Operand.tmp 166) Go.Code.skip (Go.Code.exit 6)))
 (Go.Code.seq
 (Go.Code.block 7
 (Go.Code.seq
 (Go.Code.region 34
 #[{ dst := some 169, op := Go.Op.move (Go.Operand.tmp 17), type := 24, pos := "more.go:61", after := #[], guard := none }, { dst := some 170, op := Go.Op.move (Go.Operand.tmp 19), type := 3, pos := "more.go:61", after := #[], guard := none }, { dst := some 171, op := Go.Op.indexAddr 24 (Go.Operand.tmp 169) (Go.Operand.tmp 170), type := 0, pos := "more.go:61", after := #[{ on := 0, ground := Go.Ground.data }, { on := 1, ground := Go.Ground.data }], guard := none }, { dst := some 172, op := Go.Op.fieldAddr 41 (Go.Operand.tmp 171) 0, type := 0, pos := "more.go:61", after := #[{ on := 2, ground := Go.Ground.data }], guard := none }, { dst := some 173, op := Go.Op.load 3 (Go.Operand.tmp 172), type := 3, pos := "more.go:61", after := #[{ on := 3, ground := Go.Ground.data }], guard := none }, { dst := some 174, op := Go.Op.move (Go.Operand.tmp 7), type := 24, pos := "more.go:61", after := #[], guard := none }, { dst := some 175, op := Go.Op.move (Go.Operand.tmp 19), type := 3, pos := "more.go:61", after := #[], guard := none }, { dst := some 176, op := Go.Op.indexAddr 24 (Go.Operand.tmp 174) (Go.Operand.tmp 175), type := 0, pos := "more.go:61", after := #[{ on := 5, ground := Go.Ground.data }, { on := 6, ground := Go.Ground.data }], guard := none }, { dst := some 177, op := Go.Op.fieldAddr 41 (Go.Operand.tmp 176) 0, type := 0, pos := "more.go:61", after := #[{ on := 7, ground := Go.Ground.data }], guard := none }, { dst := some 178, op := Go.Op.load 3 (Go.Operand.tmp 177), type := 3, pos := "more.go:61", after := #[{ on := 8, ground := Go.Ground.data }], guard := none }, { dst := some 179, op := Go.Op.binOp Go.BinOp.neq 3 (Go.Operand.tmp 173) (Go.Operand.tmp 178) 3, type := 4, pos := "more.go:61", after := #[{ on := 4, ground := Go.Ground.data }, { on := 9, ground := Go.Ground.data }], guard := none }, { dst := some 180, op := Go.Op.move (Go.Operand.tmp 179), type := 4, pos := "more.go:61", after := #[{ on := 10, ground := Go.Ground.data }], guard := none }, { dst := some 181, op := Go.Op.move (Go.Operand.tmp 17), type := 24, pos := "more.go:61", after := #[{ on := 11, ground := Go.Ground.guard }], guard := some (11, false) }, { dst := some 182, op := Go.Op.move (Go.Operand.tmp 19), type := 3, pos := "more.go:61", after := #[{ on := 11, ground := Go.Ground.guard }], guard := some (11, false) }, { dst := some 183, op := Go.Op.indexAddr 24 (Go.Operand.tmp 181) (Go.Operand.tmp 182), type := 0, pos := "more.go:61", after := #[{ on := 12, ground := Go.Ground.data }, { on := 13, ground := Go.Ground.data }, { on := 11, ground := Go.Ground.guard }], guard := some (11, false) }, { dst := some 184, op := Go.Op.fieldAddr 41 (Go.Operand.tmp 183) 1, type := 0, pos := "more.go:61", after := #[{ on := 14, ground := Go.Ground.data }, { on := 11, ground := Go.Ground.guard }], guard := some (11, false) }, { dst := some 185, op := Go.Op.load 3 (Go.Operand.tmp 184), type := 3, pos := "more.go:61", after := #[{ on := 15, ground := Go.Ground.data }, { on := 11, ground := Go.Ground.guard }], guard := some (11, false) }, { dst := some 186, op := Go.Op.move (Go.Operand.tmp 7), type := 24, pos := "more.go:61", after := #[{ on := 11, ground := Go.Ground.guard }], guard := some (11, false) }, { dst := some 187, op := Go.Op.move (Go.Operand.tmp 19), type := 3, pos := "more.go:61", after := #[{ on := 11, ground := Go.Ground.guard }], guard := some (11, false) },
 { dst := some 188, op := Go.Op.indexAddr 24 (Go.Operand.tmp 186) (Go.Operand.tmp 187), type := 0, pos := "more.go:61", after := #[{ on := 17, ground := Go.Ground.data }, { on := 18, ground := Go.Ground.data }, { on := 11, ground := Go.Ground.guard }], guard := some (11, false) }, { dst := some 189, op := Go.Op.fieldAddr 41 (Go.Operand.tmp 188) 1, type := 0, pos := "more.go:61", after := #[{ on := 19, ground := Go.Ground.data }, { on := 11, ground := Go.Ground.guard }], guard := some (11, false) }, { dst := some 190, op := Go.Op.load 3 (Go.Operand.tmp 189), type := 3, pos := "more.go:61", after := #[{ on := 20, ground := Go.Ground.data }, { on := 11, ground := Go.Ground.guard }], guard := some (11, false) }, { dst := some 191, op := Go.Op.binOp Go.BinOp.gtr 3 (Go.Operand.tmp 185) (Go.Operand.tmp 190) 3, type := 4, pos := "more.go:61", after := #[{ on := 16, ground := Go.Ground.data }, { on := 21, ground := Go.Ground.data }, { on := 11, ground := Go.Ground.guard }], guard := some (11, false) }, { dst := some 192, op := Go.Op.pick (Go.Operand.tmp 180) (Go.Operand.const (Go.Value.bool true)) (Go.Operand.tmp 191), type := 4, pos := "more.go:61", after := #[{ on := 11, ground := Go.Ground.data }, { on := 22, ground := Go.Ground.data }], guard := none }, { dst := some 193, op := Go.Op.move (Go.Operand.tmp 192), type := 4, pos := "more.go:61", after := #[{ on := 23, ground := Go.Ground.data }, { on := 11, ground := Go.Ground.chain }], guard := none }, { dst := some 194, op := Go.Op.move (Go.Operand.tmp 17), type := 24, pos := "more.go:61", after := #[{ on := 24, ground := Go.Ground.guard }], guard := some (24, false) }, { dst := some 195, op := Go.Op.move (Go.Operand.tmp 19), type := 3, pos := "more.go:61", after := #[{ on := 24, ground := Go.Ground.guard }], guard := some (24, false) }, { dst := some 196, op := Go.Op.indexAddr 24 (Go.Operand.tmp 194) (Go.Operand.tmp 195), type := 0, pos := "more.go:61", after := #[{ on := 25, ground := Go.Ground.data }, { on := 26, ground := Go.Ground.data }, { on := 24, ground := Go.Ground.guard }], guard := some (24, false) }, { dst := some 197, op := Go.Op.fieldAddr 41 (Go.Operand.tmp 196) 1, type := 0, pos := "more.go:61", after := #[{ on := 27, ground := Go.Ground.data }, { on := 24, ground := Go.Ground.guard }], guard := some (24, false) }, { dst := some 198, op := Go.Op.load 3 (Go.Operand.tmp 197), type := 3, pos := "more.go:61", after := #[{ on := 28, ground := Go.Ground.data }, { on := 24, ground := Go.Ground.guard }], guard := some (24, false) }, { dst := some 199, op := Go.Op.move (Go.Operand.tmp 7), type := 24, pos := "more.go:61", after := #[{ on := 24, ground := Go.Ground.guard }], guard := some (24, false) }, { dst := some 200, op := Go.Op.move (Go.Operand.tmp 19), type := 3, pos := "more.go:61", after := #[{ on := 24, ground := Go.Ground.guard }], guard := some (24, false) }, { dst := some 201, op := Go.Op.indexAddr 24 (Go.Operand.tmp 199) (Go.Operand.tmp 200), type := 0, pos := "more.go:61", after := #[{ on := 30, ground := Go.Ground.data }, { on := 31, ground := Go.Ground.data }, { on := 24, ground := Go.Ground.guard }], guard := some (24, false) }, { dst := some 202, op := Go.Op.fieldAddr 41 (Go.Operand.tmp 201) 1, type := 0, pos := "more.go:61", after := #[{ on := 32, ground := Go.Ground.data }, { on := 24, ground := Go.Ground.guard }], guard := some (24, false) },
 { dst := some 203, op := Go.Op.load 3 (Go.Operand.tmp 202), type := 3, pos := "more.go:61", after := #[{ on := 33, ground := Go.Ground.data }, { on := 24, ground := Go.Ground.guard }], guard := some (24, false) }, { dst := some 204, op := Go.Op.binOp Go.BinOp.sub 3 (Go.Operand.tmp 203) (Go.Operand.const (Go.Value.int Go.IntKind.i64 1)) 3, type := 3, pos := "more.go:61", after := #[{ on := 34, ground := Go.Ground.data }, { on := 24, ground := Go.Ground.guard }], guard := some (24, false) }, { dst := some 205, op := Go.Op.binOp Go.BinOp.lss 3 (Go.Operand.tmp 198) (Go.Operand.tmp 204) 3, type := 4, pos := "more.go:61", after := #[{ on := 29, ground := Go.Ground.data }, { on := 35, ground := Go.Ground.data }, { on := 24, ground := Go.Ground.guard }], guard := some (24, false) }, { dst := some 206, op := Go.Op.pick (Go.Operand.tmp 193) (Go.Operand.const (Go.Value.bool true)) (Go.Operand.tmp 205), type := 4, pos := "more.go:61", after := #[{ on := 24, ground := Go.Ground.data }, { on := 36, ground := Go.Ground.data }], guard := none }]
 true)
 (Go.Code.cond (Go.Operand.tmp 206) (Go.Code.seq (Go.Code.region 35 #[{ dst := some 6, op := Go.Op.assign (Go.Operand.const (Go.Value.bool false)), type := 4, pos := "more.go:62", after := #[], guard := none }] false) Go.Code.ret) Go.Code.skip)))
 (Go.Code.region 33 #[{ dst := some 167, op := Go.Op.move (Go.Operand.tmp 19), type := 3, pos := "more.go:60", after := #[], guard := none }, { dst := some 168, op := Go.Op.binOp Go.BinOp.add 3 (Go.Operand.tmp 167) (Go.Operand.const (Go.Value.int Go.IntKind.i64 1)) 3, type := 3, pos := "more.go:60", after := #[{ on := 0, ground := Go.Ground.data }], guard := none }, { dst := some 19, op := Go.Op.assign (Go.Operand.tmp 168), type := 3, pos := "more.go:60", after := #[{ on := 1, ground := Go.Ground.data }, { on := 0, ground := Go.Ground.phase }, { on := 1, ground := Go.Ground.phase }], guard := none }] false))))))
 (Go.Code.seq (Go.Code.region 36 #[{ dst := some 6, op := Go.Op.assign (Go.Operand.const (Go.Value.bool true)), type := 4, pos := "more.go:65", after := #[], guard := none }] false) Go.Code.ret)))))))
 z1_ a w →
 z108_ a w) →
 ∀ (gk : Nat) (wr : Go.World) (u6 u12 u13 u71 u72 u73 u74 u75 u76 u77 u78 u79 u80 u81 u82 u83 u84 u85 u86 u87 u88 u89 u90 u91 u92 u93 u94 u95 u96 u97 u98 u99 u100 u101 u102 u103 u104 u105 u106 u107 u108 u109 u110 u111 u112 u113 u114 u115 u116 u117 u118 u119 u120 u121 u122 u123 u124 u125 u126 : Go.Value) (z110_ : Nat → Go.Act → Go.World → Prop) (z111_ : Go.Act → Go.World → Prop),
 (∀ (k : Nat) (a' : Go.Act) (w' : Go.World),
 (∃ (u6 : Go.Value),
 ∃ (u11 : Go.Value),
 ∃ (u12 : Go.Value),
 ∃ (u13 : Go.Value),
 ∃ (u71 : Go.Value),
 ∃ (u72 : Go.Value),
 ∃ (u73 : Go.Value),
 ∃ (u74 : Go.Value),
 ∃ (u75 : Go.Value),
 ∃ (u76 : Go.Value),
 ∃ (u77 : Go.Value),
 ∃ (u78 : Go.Value),
 ∃ (u79 : Go.Value),
 ∃ (u80 : Go.Value),
 ∃ (u81 : Go.Value),
 ∃ (u82 : Go.Value),
 ∃ (u83 : Go.Value),
 ∃ (u84 : Go.Value),
 ∃ (u85 : Go.Value),
 ∃ (u86 : Go.Value),
 ∃ (u87 : Go.Value),
 ∃ (u88 : Go.Value),
 ∃ (u89 : Go.Value),
 ∃ (u90 : Go.Value),
 ∃ (u91 : Go.Value),
 ∃ (u92 : Go.Value),
 ∃ (u93 : Go.Value),
 ∃ (u94 : Go.Value),
 ∃ (u95 : Go.Value),
 ∃ (u96 : Go.Value),
 ∃ (u97 : Go.Value),
 ∃ (u98 : Go.Value),
 ∃ (u99 : Go.Value),
 ∃ (u100 : Go.Value),
 ∃ (u101 : Go.Value),
 ∃ (u102 : Go.Value),
 ∃ (u103 : Go.Value),
 ∃ (u104 : Go.Value),
 ∃ (u105 : Go.Value),
 ∃ (u106 : Go.Value),
 ∃ (u107 : Go.Value),
 ∃ (u108 : Go.Value),
 ∃ (u109 : Go.Value),
 ∃ (u110 : Go.Value),
 ∃ (u111 : Go.Value),
 ∃ (u112 : Go.Value),
 ∃ (u113 : Go.Value),
 ∃ (u114 : Go.Value),
 ∃ (u115 : Go.Value),
 ∃ (u116 : Go.Value),
 ∃ (u117 : Go.Value),
 ∃ (u118 : Go.Value),
 ∃ (u119 : Go.Value),
 ∃ (u120 : Go.Value),
 ∃ (u121 : Go.Value),
 ∃ (u122 : Go.Value),
 ∃ (u123 : Go.Value),
 ∃ (u124 : Go.Value),
 ∃ (u125 : Go.Value),
 ∃ (u126 : Go.Value),
 (∃ (x11_3 : Int), u11 = Go.Value.int Go.IntKind.i64 x11_3 ∧ Aside0 (watchwordlaw21_PathsTriangle.l1 k a1 a2 t206 x11_3 a0_0 a0_1 a0_2 a0_3 a0_4 a0_5 a0_6 a0_7 a0_8 a0_9 a0_10 a0_11 a0_12 a0_13 a0_14 a0_15 x212000_2 x212001_2 x212002_2 x212003_2 x212004_2 = some r) ∧ Aside0 (k ≤ k2) ∧ Aside0 (Kd.S k41 41 w' (Array.size (Go.World.heap w)) (fun (x : Nat) => True) (Go.Value.slice Ao27 (List.length t206) co27) t206) ∧ Aside0 ((Go.World.heap w')[gb204]? = some (Go.Obj.cells #[Go.Value.int Go.IntKind.i64 a0_0, Go.Value.int Go.IntKind.i64 a0_1, Go.Value.int Go.IntKind.i64 a0_2, Go.Value.int Go.IntKind.i64 a0_3, Go.Value.int Go.IntKind.i64 a0_4, Go.Value.int Go.IntKind.i64 a0_5, Go.Value.int Go.IntKind.i64 a0_6, Go.Value.int Go.IntKind.i64 a0_7, Go.Value.int Go.IntKind.i64 a0_8, Go.Value.int Go.IntKind.i64 a0_9, Go.Value.int Go.IntKind.i64 a0_10, Go.Value.int Go.IntKind.i64 a0_11, Go.Value.int Go.IntKind.i64 a0_12, Go.Value.int Go.IntKind.i64 a0_13, Go.Value.int Go.IntKind.i64 a0_14, Go.Value.int Go.IntKind.i64 a0_15] 23)) ∧ Aside0 ((Go.World.heap w')[gb211]? = some (Go.Obj.cells #[Go.Value.int Go.IntKind.i64 x212000_2, Go.Value.int Go.IntKind.i64 x212001_2, Go.Value.int Go.IntKind.i64 x212002_2, Go.Value.int Go.IntKind.i64 x212003_2, Go.Value.int Go.IntKind.i64 x212004_2] 44)) ∧ Aside0 (Below (Array.size (Go.World.heap w)) w w')) ∧
 a' = { tmps := #[Go.Value.agg #[Go.Value.int Go.IntKind.i64 a0_0, Go.Value.int Go.IntKind.i64 a0_1, Go.Value.int Go.IntKind.i64 a0_2, Go.Value.int Go.IntKind.i64 a0_3, Go.Value.int Go.IntKind.i64 a0_4, Go.Value.int Go.IntKind.i64 a0_5, Go.Value.int Go.IntKind.i64 a0_6, Go.Value.int Go.IntKind.i64 a0_7, Go.Value.int Go.IntKind.i64 a0_8, Go.Value.int Go.IntKind.i64 a0_9, Go.Value.int Go.IntKind.i64 a0_10, Go.Value.int Go.IntKind.i64 a0_11, Go.Value.int Go.IntKind.i64 a0_12, Go.Value.int Go.IntKind.i64 a0_13, Go.Value.int Go.IntKind.i64 a0_14, Go.Value.int Go.IntKind.i64 a0_15], Go.Value.int Go.IntKind.i64 a1, Go.Value.int Go.IntKind.i64 a2, Go.Value.pointer (some { block := gb204, off := 0 }), Go.undef, Go.undef, u6, Go.Value.slice Ao27 (List.length t206) co27, Go.Value.int Go.IntKind.i64 t209, Go.Value.pointer (some { block := gb211, off := 0 }), Go.Value.int Go.IntKind.i64 x10_2, u11, u12, u13, Go.undef, Go.undef, Go.undef, Go.undef, Go.undef, Go.undef, u20, u21, u22, u23, u24, u25, u26, u27, u28, u29, u30, u31, u32, u33, u34, u35, u36, u37, u38, Go.Value.bool false, Go.Value.int Go.IntKind.i64 x10_2, Go.Value.slice Ao27 (List.length t206) co27, Go.Value.int Go.IntKind.i64 (↑(List.length t206) : Int), Go.Value.bool false, u44, u45, u46, u47, u48, u49, u50, u51, u52, u53, u54, u55, u56, u57, u58, u59, u60, u61, u62, u63, u64, u65, u66, u67, u68, u69, u70, u71, u72, u73, u74, u75, u76, u77, u78, u79, u80, u81, u82, u83, u84, u85, u86, u87, u88, u89, u90, u91, u92, u93, u94, u95, u96, u97, u98, u99, u100, u101, u102, u103, u104, u105, u106, u107, u108, u109, u110, u111, u112, u113, u114, u115, u116, u117, u118, u119, u120, u121, u122, u123, u124, u125, u126, u127, u128, u129, u130, u131, u132, u133, u134, u135, u136, u137, u138, u139, u140, u141, u142, u143, u144, u145, u146, u147, u148, u149, u150, u151, u152, u153, u154, u155, u156, u157, u158, u159, u160, u161, u162, u163, u164, u165, u166, u167, u168, u169, u170, u171, u172, u173, u174, u175, u176, u177, u178, u179, u180, u181, u182, u183, u184, u185, u186, u187, u188, u189, u190, u191, u192, u193, u194, u195, u196, u197, u198, u199, u200, u201, u202, u203, u204, u205, u206], defers := [] }) →
 z110_ k a' w') →
 (∀ (a' : Go.Act) (w' : Go.World), Go.Handed z110_ gk a' w' → z111_ a' w') →
 ∀ (x11_3 : Int),
 Aside0 (watchwordlaw21_PathsTriangle.l1 gk a1 a2 t206 x11_3 a0_0 a0_1 a0_2 a0_3 a0_4 a0_5 a0_6 a0_7 a0_8 a0_9 a0_10 a0_11 a0_12 a0_13 a0_14 a0_15 x212000_2 x212001_2 x212002_2 x212003_2 x212004_2 = some r) →
 Aside0 (gk ≤ k2) →
 Aside0 (Kd.S k41 41 wr (Array.size (Go.World.heap w)) (fun (x : Nat) => True) (Go.Value.slice Ao27 (List.length t206) co27) t206) →
 Aside0 ((Go.World.heap wr)[gb204]? = some (Go.Obj.cells #[Go.Value.int Go.IntKind.i64 a0_0, Go.Value.int Go.IntKind.i64 a0_1, Go.Value.int Go.IntKind.i64 a0_2, Go.Value.int Go.IntKind.i64 a0_3, Go.Value.int Go.IntKind.i64 a0_4, Go.Value.int Go.IntKind.i64 a0_5, Go.Value.int Go.IntKind.i64 a0_6, Go.Value.int Go.IntKind.i64 a0_7, Go.Value.int Go.IntKind.i64 a0_8, Go.Value.int Go.IntKind.i64 a0_9, Go.Value.int Go.IntKind.i64 a0_10, Go.Value.int Go.IntKind.i64 a0_11, Go.Value.int Go.IntKind.i64 a0_12, Go.Value.int Go.IntKind.i64 a0_13, Go.Value.int Go.IntKind.i64 a0_14, Go.Value.int Go.IntKind.i64 a0_15] 23)) →
 Aside0 ((Go.World.heap wr)[gb211]? = some (Go.Obj.cells #[Go.Value.int Go.IntKind.i64 x212000_2, Go.Value.int Go.IntKind.i64 x212001_2, Go.Value.int Go.IntKind.i64 x212002_2, Go.Value.int Go.IntKind.i64 x212003_2, Go.Value.int Go.IntKind.i64 x212004_2] 44)) →
 Aside0 (Below (Array.size (Go.World.heap w)) w wr) →
 Go.Code.wp Try.prog
 (Go.Code.seq (Go.Code.seq (Go.Code.region 16 #[{ dst := some 71, op := Go.Op.move (Go.Operand.tmp 11), type := 3, pos := "more.go:43", after := #[], guard := none }, { dst := some 72, op := Go.Op.binOp Go.BinOp.leq 3 (Go.Operand.tmp 71) (Go.Operand.const (Go.Value.int Go.IntKind.i64 4)) 3, type := 4, pos := "more.go:43", after := #[{ on := 0, ground := Go.Ground.data }], guard := none }] false) (Go.Code.cond (Go.Operand.tmp 72) Go.Code.skip (Go.Code.exit 2)))
 (Go.Code.seq
 (Go.Code.block 3
 (Go.Code.seq (Go.Code.region 18 #[{ dst := some 12, op := Go.Op.assign (Go.Operand.const (Go.Value.int Go.IntKind.i64 1)), type := 3, pos := "more.go:44", after := #[], guard := none }] false)
 (Go.Code.block 4
 (Go.Code.loop
 (Go.Code.seq (Go.Code.seq (Go.Code.region 19 #[{ dst := some 75, op := Go.Op.move (Go.Operand.tmp 12), type := 3, pos := "more.go:44", after := #[], guard := none }, { dst := some 76, op := Go.Op.binOp Go.BinOp.leq 3 (Go.Operand.tmp 75) (Go.Operand.const (Go.Value.int Go.IntKind.i64 4)) 3, type := 4, pos := "more.go:44", after := #[{ on := 0, ground := Go.Ground.data }], guard := none }] false) (Go.Code.cond (Go.Operand.tmp 76) Go.Code.skip (Go.Code.exit 4)))
 (Go.Code.seq
 (Go.Code.block 5
 (Go.Code.seq (Go.Code.region 21 #[{ dst := some 79, op := Go.Op.move (Go.Operand.tmp 11), type := 3, pos := "more.go:45", after := #[], guard := none }, { dst := some 80, op := Go.Op.move (Go.Operand.tmp 1), type := 3, pos := "more.go:45", after := #[], guard := none }, { dst := some 81, op := Go.Op.binOp Go.BinOp.eql 3 (Go.Operand.tmp 79) (Go.Operand.tmp 80) 3, type := 4, pos := "more.go:45", after := #[{ on := 0, ground := Go.Ground.data }, { on := 1, ground := Go.Ground.data }], guard := none }, { dst := some 82, op := Go.Op.move (Go.Operand.tmp 81), type := 4, pos := "more.go:45", after := #[{ on := 2, ground := Go.Ground.data }], guard := none }, { dst := some 83, op := Go.Op.move (Go.Operand.tmp 11), type := 3, pos := "more.go:45", after := #[{ on := 3, ground := Go.Ground.guard }], guard := some (3, false) }, { dst := some 84, op := Go.Op.indexAddr 44 (Go.Operand.tmp 9) (Go.Operand.tmp 83), type := 0, pos := "more.go:45", after := #[{ on := 4, ground := Go.Ground.data }, { on := 3, ground := Go.Ground.guard }], guard := some (3, false) }, { dst := some 85, op := Go.Op.load 3 (Go.Operand.tmp 84), type := 3, pos := "more.go:45", after := #[{ on := 5, ground := Go.Ground.data }, { on := 3, ground := Go.Ground.guard }], guard := some (3, false) }, { dst := some 86, op := Go.Op.binOp Go.BinOp.gtr 3 (Go.Operand.tmp 85) (Go.Operand.const (Go.Value.int Go.IntKind.i64 0)) 3, type := 4, pos := "more.go:45", after := #[{ on := 6, ground := Go.Ground.data }, { on := 3, ground := Go.Ground.guard }], guard := some (3, false) }, { dst := some 87, op := Go.Op.pick (Go.Operand.tmp 82) (Go.Operand.const (Go.Value.bool true)) (Go.Operand.tmp 86), type := 4, pos := "more.go:45", after := #[{ on := 3, ground := Go.Ground.data }, { on := 7, ground := Go.Ground.data }], guard := none }, { dst := some 13, op := Go.Op.assign (Go.Operand.tmp 87), type := 4, pos := "more.go:45", after := #[{ on := 8, ground := Go.Ground.data }, { on := 3, ground := Go.Ground.chain }, { on := 0, ground := Go.Ground.phase }, { on := 1, ground := Go.Ground.phase }, { on := 2, ground := Go.Ground.phase }, { on := 3, ground := Go.Ground.phase }, { on := 4, ground := Go.Ground.phase }, { on := 5, ground := Go.Ground.phase }, { on := 6, ground := Go.Ground.phase }, { on := 7, ground := Go.Ground.phase }, { on := 8, ground := Go.Ground.phase }], guard := none }] false)
 (Go.Code.seq
 (Go.Code.region 22
 #[{ dst := some 88, op := Go.Op.move (Go.Operand.tmp 12), type := 3, pos := "more.go:46", after := #[], guard := none }, { dst := some 89, op := Go.Op.move (Go.Operand.tmp 1), type := 3, pos := "more.go:46", after := #[], guard := none }, { dst := some 90, op := Go.Op.binOp Go.BinOp.neq 3 (Go.Operand.tmp 88) (Go.Operand.tmp 89) 3, type := 4, pos := "more.go:46", after := #[{ on := 0, ground := Go.Ground.data }, { on := 1, ground := Go.Ground.data }], guard := none }, { dst := some 91, op := Go.Op.move (Go.Operand.tmp 90), type := 4, pos := "more.go:46", after := #[{ on := 2, ground := Go.Ground.data }], guard := none }, { dst := some 92, op := Go.Op.move (Go.Operand.tmp 13), type := 4, pos := "more.go:46", after := #[{ on := 3, ground := Go.Ground.guard }], guard := some (3, true) }, { dst := some 93, op := Go.Op.pick (Go.Operand.tmp 91) (Go.Operand.tmp 92) (Go.Operand.const (Go.Value.bool false)), type := 4, pos := "more.go:46", after := #[{ on := 3, ground := Go.Ground.data }, { on := 4, ground := Go.Ground.data }], guard := none }, { dst := some 94, op := Go.Op.move (Go.Operand.tmp 93), type := 4, pos := "more.go:46", after := #[{ on := 5, ground := Go.Ground.data }, { on := 3, ground := Go.Ground.chain }], guard := none }, { dst := some 95, op := Go.Op.move (Go.Operand.tmp 11), type := 3, pos := "more.go:46", after := #[{ on := 6, ground := Go.Ground.guard }], guard := some (6, true) }, { dst := some 96, op := Go.Op.binOp Go.BinOp.sub 3 (Go.Operand.tmp 95) (Go.Operand.const (Go.Value.int Go.IntKind.i64 1)) 3, type := 3, pos := "more.go:46", after := #[{ on := 7, ground := Go.Ground.data }, { on := 6, ground := Go.Ground.guard }], guard := some (6, true) }, { dst := some 97, op := Go.Op.move (Go.Operand.tmp 12), type := 3, pos := "more.go:46", after := #[{ on := 6, ground := Go.Ground.guard }], guard := some (6, true) }, { dst := some 98, op := Go.Op.binOp Go.BinOp.sub 3 (Go.Operand.tmp 97) (Go.Operand.const (Go.Value.int Go.IntKind.i64 1)) 3, type := 3, pos := "more.go:46", after := #[{ on := 9, ground := Go.Ground.data }, { on := 6, ground := Go.Ground.guard }], guard := some (6, true) }, { dst := some 99, op := Go.Op.indexAddr 23 (Go.Operand.tmp 3) (Go.Operand.tmp 96), type := 0, pos := "more.go:46", after := #[{ on := 8, ground := Go.Ground.data }, { on := 6, ground := Go.Ground.guard }], guard := some (6, true) }, { dst := some 100, op := Go.Op.indexAddr 22 (Go.Operand.tmp 99) (Go.Operand.tmp 98), type := 0, pos := "more.go:46", after := #[{ on := 11, ground := Go.Ground.data }, { on := 10, ground := Go.Ground.data }, { on := 6, ground := Go.Ground.guard }], guard := some (6, true) }, { dst := some 101, op := Go.Op.load 3 (Go.Operand.tmp 100), type := 3, pos := "more.go:46", after := #[{ on := 12, ground := Go.Ground.data }, { on := 6, ground := Go.Ground.guard }], guard := some (6, true) }, { dst := some 102, op := Go.Op.binOp Go.BinOp.gtr 3 (Go.Operand.tmp 101) (Go.Operand.const (Go.Value.int Go.IntKind.i64 0)) 3, type := 4, pos := "more.go:46", after := #[{ on := 13, ground := Go.Ground.data }, { on := 6, ground := Go.Ground.guard }], guard := some (6, true) }, { dst := some 103, op := Go.Op.pick (Go.Operand.tmp 94) (Go.Operand.tmp 102) (Go.Operand.const (Go.Value.bool false)), type := 4, pos := "more.go:46", after := #[{ on := 6, ground := Go.Ground.data }, { on := 14, ground := Go.Ground.data }], guard := none },
 { dst := some 104, op := Go.Op.move (Go.Operand.tmp 103), type := 4, pos := "more.go:46", after := #[{ on := 15, ground := Go.Ground.data }, { on := 6, ground := Go.Ground.chain }], guard := none }, { dst := some 105, op := Go.Op.move (Go.Operand.tmp 12), type := 3, pos := "more.go:46", after := #[{ on := 16, ground := Go.Ground.guard }], guard := some (16, true) }, { dst := some 106, op := Go.Op.indexAddr 44 (Go.Operand.tmp 9) (Go.Operand.tmp 105), type := 0, pos := "more.go:46", after := #[{ on := 17, ground := Go.Ground.data }, { on := 16, ground := Go.Ground.guard }], guard := some (16, true) }, { dst := some 107, op := Go.Op.load 3 (Go.Operand.tmp 106), type := 3, pos := "more.go:46", after := #[{ on := 18, ground := Go.Ground.data }, { on := 16, ground := Go.Ground.guard }], guard := some (16, true) }, { dst := some 108, op := Go.Op.binOp Go.BinOp.eql 3 (Go.Operand.tmp 107) (Go.Operand.const (Go.Value.int Go.IntKind.i64 0)) 3, type := 4, pos := "more.go:46", after := #[{ on := 19, ground := Go.Ground.data }, { on := 16, ground := Go.Ground.guard }], guard := some (16, true) }, { dst := some 109, op := Go.Op.move (Go.Operand.tmp 108), type := 4, pos := "more.go:46", after := #[{ on := 20, ground := Go.Ground.data }, { on := 16, ground := Go.Ground.chain }, { on := 16, ground := Go.Ground.guard }], guard := some (16, true) }, { dst := some 110, op := Go.Op.move (Go.Operand.tmp 12), type := 3, pos := "more.go:46", after := #[{ on := 21, ground := Go.Ground.guard }], guard := some (21, false) }, { dst := some 111, op := Go.Op.indexAddr 44 (Go.Operand.tmp 9) (Go.Operand.tmp 110), type := 0, pos := "more.go:46", after := #[{ on := 22, ground := Go.Ground.data }, { on := 21, ground := Go.Ground.guard }], guard := some (21, false) }, { dst := some 112, op := Go.Op.load 3 (Go.Operand.tmp 111), type := 3, pos := "more.go:46", after := #[{ on := 23, ground := Go.Ground.data }, { on := 21, ground := Go.Ground.guard }], guard := some (21, false) }, { dst := some 113, op := Go.Op.move (Go.Operand.tmp 11), type := 3, pos := "more.go:46", after := #[{ on := 21, ground := Go.Ground.guard }], guard := some (21, false) }, { dst := some 114, op := Go.Op.indexAddr 44 (Go.Operand.tmp 9) (Go.Operand.tmp 113), type := 0, pos := "more.go:46", after := #[{ on := 25, ground := Go.Ground.data }, { on := 21, ground := Go.Ground.guard }], guard := some (21, false) }, { dst := some 115, op := Go.Op.load 3 (Go.Operand.tmp 114), type := 3, pos := "more.go:46", after := #[{ on := 26, ground := Go.Ground.data }, { on := 21, ground := Go.Ground.guard }], guard := some (21, false) }, { dst := some 116, op := Go.Op.move (Go.Operand.tmp 11), type := 3, pos := "more.go:46", after := #[{ on := 21, ground := Go.Ground.guard }], guard := some (21, false) }, { dst := some 117, op := Go.Op.binOp Go.BinOp.sub 3 (Go.Operand.tmp 116) (Go.Operand.const (Go.Value.int Go.IntKind.i64 1)) 3, type := 3, pos := "more.go:46", after := #[{ on := 28, ground := Go.Ground.data }, { on := 21, ground := Go.Ground.guard }], guard := some (21, false) }, { dst := some 118, op := Go.Op.move (Go.Operand.tmp 12), type := 3, pos := "more.go:46", after := #[{ on := 21, ground := Go.Ground.guard }], guard := some (21, false) }, { dst := some 119, op := Go.Op.binOp Go.BinOp.sub 3 (Go.Operand.tmp 118) (Go.Operand.const (Go.Value.int Go.IntKind.i64 1)) 3, type := 3, pos := "more.go:46", after := #[{ on := 30, ground := Go.Ground.data }, { on := 21, ground := Go.Ground.guard }], guard := some (21, false) },
 { dst := some 120, op := Go.Op.indexAddr 23 (Go.Operand.tmp 3) (Go.Operand.tmp 117), type := 0, pos := "more.go:46", after := #[{ on := 29, ground := Go.Ground.data }, { on := 21, ground := Go.Ground.guard }], guard := some (21, false) }, { dst := some 121, op := Go.Op.indexAddr 22 (Go.Operand.tmp 120) (Go.Operand.tmp 119), type := 0, pos := "more.go:46", after := #[{ on := 32, ground := Go.Ground.data }, { on := 31, ground := Go.Ground.data }, { on := 21, ground := Go.Ground.guard }], guard := some (21, false) }, { dst := some 122, op := Go.Op.load 3 (Go.Operand.tmp 121), type := 3, pos := "more.go:46", after := #[{ on := 33, ground := Go.Ground.data }, { on := 21, ground := Go.Ground.guard }], guard := some (21, false) }, { dst := some 123, op := Go.Op.binOp Go.BinOp.add 3 (Go.Operand.tmp 115) (Go.Operand.tmp 122) 3, type := 3, pos := "more.go:46", after := #[{ on := 27, ground := Go.Ground.data }, { on := 34, ground := Go.Ground.data }, { on := 21, ground := Go.Ground.guard }], guard := some (21, false) }, { dst := some 124, op := Go.Op.binOp Go.BinOp.gtr 3 (Go.Operand.tmp 112) (Go.Operand.tmp 123) 3, type := 4, pos := "more.go:46", after := #[{ on := 24, ground := Go.Ground.data }, { on := 35, ground := Go.Ground.data }, { on := 21, ground := Go.Ground.guard }], guard := some (21, false) }, { dst := some 125, op := Go.Op.pick (Go.Operand.tmp 109) (Go.Operand.const (Go.Value.bool true)) (Go.Operand.tmp 124), type := 4, pos := "more.go:46", after := #[{ on := 21, ground := Go.Ground.data }, { on := 36, ground := Go.Ground.data }, { on := 16, ground := Go.Ground.guard }], guard := some (16, true) }, { dst := some 126, op := Go.Op.pick (Go.Operand.tmp 104) (Go.Operand.tmp 125) (Go.Operand.const (Go.Value.bool false)), type := 4, pos := "more.go:46", after := #[{ on := 16, ground := Go.Ground.data }, { on := 37, ground := Go.Ground.data }], guard := none }]
 true)
 (Go.Code.cond (Go.Operand.tmp 126) (Go.Code.seq (Go.Code.region 23 #[{ dst := some 6, op := Go.Op.assign (Go.Operand.const (Go.Value.bool false)), type := 4, pos := "more.go:47", after := #[], guard := none }] false) Go.Code.ret) Go.Code.skip))))
 (Go.Code.region 20 #[{ dst := some 77, op := Go.Op.move (Go.Operand.tmp 12), type := 3, pos := "more.go:44", after := #[], guard := none }, { dst := some 78, op := Go.Op.binOp Go.BinOp.add 3 (Go.Operand.tmp 77) (Go.Operand.const (Go.Value.int Go.IntKind.i64 1)) 3, type := 3, pos := "more.go:44", after := #[{ on := 0, ground := Go.Ground.data }], guard := none }, { dst := some 12, op := Go.Op.assign (Go.Operand.tmp 78), type := 3, pos := "more.go:44", after := #[{ on := 1, ground := Go.Ground.data }, { on := 0, ground := Go.Ground.phase }, { on := 1, ground := Go.Ground.phase }], guard := none }] false)))))))
 (Go.Code.region 17 #[{ dst := some 73, op := Go.Op.move (Go.Operand.tmp 11), type := 3, pos := "more.go:43", after := #[], guard := none }, { dst := some 74, op := Go.Op.binOp Go.BinOp.add 3 (Go.Operand.tmp 73) (Go.Operand.const (Go.Value.int Go.IntKind.i64 1)) 3, type := 3, pos := "more.go:43", after := #[{ on := 0, ground := Go.Ground.data }], guard := none }, { dst := some 11, op := Go.Op.assign (Go.Operand.tmp 74), type := 3, pos := "more.go:43", after := #[{ on := 1, ground := Go.Ground.data }, { on := 0, ground := Go.Ground.phase }, { on := 1, ground := Go.Ground.phase }], guard := none }] false)))
 (Go.Exit.then z111_ (Go.Exit.inBlock 2 (Go.Exit.then z108_ z1_))) { tmps := #[Go.Value.agg #[Go.Value.int Go.IntKind.i64 a0_0, Go.Value.int Go.IntKind.i64 a0_1, Go.Value.int Go.IntKind.i64 a0_2, Go.Value.int Go.IntKind.i64 a0_3, Go.Value.int Go.IntKind.i64 a0_4, Go.Value.int Go.IntKind.i64 a0_5, Go.Value.int Go.IntKind.i64 a0_6, Go.Value.int Go.IntKind.i64 a0_7, Go.Value.int Go.IntKind.i64 a0_8, Go.Value.int Go.IntKind.i64 a0_9, Go.Value.int Go.IntKind.i64 a0_10, Go.Value.int Go.IntKind.i64 a0_11, Go.Value.int Go.IntKind.i64 a0_12, Go.Value.int Go.IntKind.i64 a0_13, Go.Value.int Go.IntKind.i64 a0_14, Go.Value.int Go.IntKind.i64 a0_15], Go.Value.int Go.IntKind.i64 a1, Go.Value.int Go.IntKind.i64 a2, Go.Value.pointer (some { block := gb204, off := 0 }), Go.undef, Go.undef, u6, Go.Value.slice Ao27 (List.length t206) co27, Go.Value.int Go.IntKind.i64 t209, Go.Value.pointer (some { block := gb211, off := 0 }), Go.Value.int Go.IntKind.i64 x10_2, Go.Value.int Go.IntKind.i64 x11_3, u12, u13, Go.undef, Go.undef, Go.undef, Go.undef, Go.undef, Go.undef, u20, u21, u22, u23, u24, u25, u26, u27, u28, u29, u30, u31, u32, u33, u34, u35, u36, u37, u38, Go.Value.bool false, Go.Value.int Go.IntKind.i64 x10_2, Go.Value.slice Ao27 (List.length t206) co27, Go.Value.int Go.IntKind.i64 (↑(List.length t206) : Int), Go.Value.bool false, u44, u45, u46, u47, u48, u49, u50, u51, u52, u53, u54, u55, u56, u57, u58, u59, u60, u61, u62, u63, u64, u65, u66, u67, u68, u69, u70, u71, u72, u73, u74, u75, u76, u77, u78, u79, u80, u81, u82, u83, u84, u85, u86, u87, u88, u89, u90, u91, u92, u93, u94, u95, u96, u97, u98, u99, u100, u101, u102, u103, u104, u105, u106, u107, u108, u109, u110, u111, u112, u113, u114, u115, u116, u117, u118, u119, u120, u121, u122, u123, u124, u125, u126, u127, u128, u129, u130, u131, u132, u133, u134, u135, u136, u137, u138, u139, u140, u141, u142, u143, u144, u145, u146, u147, u148, u149, u150, u151, u152, u153, u154, u155, u156, u157, u158, u159, u160, u161, u162, u163, u164, u165, u166, u167, u168, u169, u170, u171, u172, u173, u174, u175, u176, u177, u178, u179, u180, u181, u182, u183, u184, u185, u186, u187, u188, u189, u190, u191, u192, u193, u194, u195, u196, u197, u198, u199, u200, u201, u202, u203, u204, u205, u206], defers := [] } wr := by
 intro k a0_0 a0_1 a0_2 a0_3 a0_4 a0_5 a0_6 a0_7 a0_8 a0_9 a0_10 a0_11 a0_12 a0_13 a0_14 a0_15 a1 a2 r w hu23 hu44 HT A4 t206 t209 A6 t210 A7 z1_ gb204 w10 GW204 GE204 w11 w13 z2_ z3_ nd wc u20 u21 u22 u23 u24 u25 u26 u27 u28 u29 u30 u31 u32 u33 u34 u35 u36 u37 u38 z4_ z5_ z6_ z7_ z8_ z9_ z10_ z11_ z12_ z13_ z14_ z15_ z16_ z17_ z18_ z19_ z20_ z21_ z22_ z23_ z24_ z25_ z26_ z27_ z28_ z29_ z30_ z31_ z32_ z33_ z34_ z35_ z36_ z37_ z38_ z39_ z40_ z41_ z42_ z43_ z44_ z45_ z46_ z47_ z48_ z49_ z50_ z51_ z52_ z53_ z54_ z55_ z56_ z57_ z58_ z59_ z60_ z61_ z62_ z63_ z64_ z65_ z66_ z67_ z68_ z69_ z70_ z71_ z72_ z73_ z74_ z75_ z76_ z77_ z78_ z79_ z80_ z81_ z82_ z83_ z84_ z85_ z86_ z87_ z88_ z89_ z90_ u127 u128 u129 u130 u131 u132 u133 u134 u135 u136 u137 u138 u139 u140 u141 u142 u143 u144 u145 u146 u147 u148 u149 u150 u151 u152 u153 u154 u155 u156 u157 u158 u159 u160 u161 u162 u163 u164 u165 u166 u167 u168 u169 u170 u171 u172 u173 u174 u175 u176 u177 u178 u179 u180 u181 u182 u183 u184 u185 u186 u187 u188 u189 u190 u191 u192 u193 u194 u195 u196 u197 u198 u199 u200 u201 u202 u203 u204 u205 u206 kj8 HJ8 gb211 w16 z91_ z92_ z93_ GW211 GE211 NB204_211 NB211_204 z94_ z95_ z96_ u40 u41 u42 u43 u44 u45 u46 u47 u48 u49 u50 u51 u52 u53 u54 u55 u56 u57 u58 u59 u60 u61 u62 u63 u64 u65 u66 u67 u68 u69 u70 z97_ z98_ x10_2 x212000_2 x212001_2 x212002_2 x212003_2 x212004_2 z99_ z100_ z101_ k2 z102_ HK2 Ao27 co27 HO208 z103_ z104_ z105_ z106_ z107_ z108_ z109_ gk wr u6 u12 u13 u71 u72 u73 u74 u75 u76 u77 u78 u79 u80 u81 u82 u83 u84 u85 u86 u87 u88 u89 u90 u91 u92 u93 u94 u95 u96 u97 u98 u99 u100 u101 u102 u103 u104 u105 u106 u107 u108 u109 u110 u111 u112 u113 u114 u115 u116 u117 u118 u119 u120 u121 u122 u123 u124 u125 u126 z110_ z111_ z112_ z113_ x11_3 HA HK3 HO_7 BK204 BK211 HB
 cases gk with
 | zero => exact absurd HA.out (by simp [watchwordlaw21_PathsTriangle.l1])
 | succ k3 =>
  have H := HA.out
  clear HA
  simp only [watchwordlaw21_PathsTriangle.l1] at H
  by_cases c28 : x11_3 ≤ 4
  ·rw [if_pos c28] at H
   have c28b0 : decide (x11_3 ≤ 4) = true := decide_eq_true c28
   clear c28
   have H' := Aside0.mk H
   clear H
   go_wp2
   go_loopg [12] k3 (fun kq v12 w' => ∃ (x12_4 : Int), v12 = .int .i64 x12_4 ∧ Aside0 (watchwordlaw21_PathsTriangle.l2 kq a1 a2 t206 x11_3 x12_4 a0_0 a0_1 a0_2 a0_3 a0_4 a0_5 a0_6 a0_7 a0_8 a0_9 a0_10 a0_11 a0_12 a0_13 a0_14 a0_15 x212000_2 x212001_2 x212002_2 x212003_2 x212004_2 = some r) ∧ Aside0 (kq ≤ k3) ∧ Aside0 (Kd.S k41 41 w' w.heap.size (fun _ => True) (.slice Ao27 t206.length co27) t206) ∧ Aside0 (w'.heap[gb204]? = some (.cells #[.int .i64 a0_0, .int .i64 a0_1, .int .i64 a0_2, .int .i64 a0_3, .int .i64 a0_4, .int .i64 a0_5, .int .i64 a0_6, .int .i64 a0_7, .int .i64 a0_8, .int .i64 a0_9, .int .i64 a0_10, .int .i64 a0_11, .int .i64 a0_12, .int .i64 a0_13, .int .i64 a0_14, .int .i64 a0_15] 23 (0, 0))) ∧ Aside0 (w'.heap[gb211]? = some (.cells #[.int .i64 x212000_2, .int .i64 x212001_2, .int .i64 x212002_2, .int .i64 x212003_2, .int .i64 x212004_2] 44 (0, 0))) ∧ Aside0 (Below w.heap.size w w'))
   case atStart => exact ⟨(1), (by first | rfl | (simp; done) | (simp [*]; done)), H', ⟨Nat.le_refl _⟩, ⟨by (with_reducible repeat (first | apply Kd.S_alloc | apply Kd.S_drewN | apply Kd.S_drew)); exact HO_7.out⟩, ⟨by (with_reducible repeat (first | refine blk_drewN ?_ _ | refine blk_drew ?_ | refine blk_alloc ?_ _)); exact BK204.out⟩, ⟨by (with_reducible repeat (first | refine blk_drewN ?_ _ | refine blk_drew ?_ | refine blk_alloc ?_ _)); exact BK211.out⟩, ⟨by repeat (first | (with_reducible first | exact HB.out | apply below_alloc | apply pw_below_drewN | apply below_drew1 | refine below_set ?_ GE204.out | refine below_set ?_ GE211.out) | exact HB.out)⟩⟩
   case round =>
    clear H'
    try clear c1
    try clear c2
    try clear p2
    try clear q2
    try clear hx2
    try clear c5
    try clear c6
    try clear p6
    try clear c8
    try clear c8b0
    try clear c8b1
    try clear c13
    try clear c14
    try clear c14b0
    try clear c15
    try clear c16
    try clear c17
    try clear c17b0
    try clear c18
    try clear c18b0
    try clear c19
    try clear c19b0
    try clear c20
    try clear c20b0
    try clear c21
    try clear c21b0
    try clear p21
    try clear q21
    try clear hx21
    try clear c22
    try clear c22b0
    try clear p25
    try clear q25
    try clear c28
    try clear c28b0
    try clear hcz12_0
    try clear hcz12_1
    try clear hcz12_10
    try clear hcz12_11
    try clear hcz12_12
    try clear hcz12_13
    try clear hcz12_14
    try clear hcz12_15
    try clear hcz12_2
    try clear hcz12_3
    try clear hcz12_4
    try clear hcz12_5
    try clear hcz12_6
    try clear hcz12_7
    try clear hcz12_8
    try clear hcz12_9
    try clear hfz12_0
    try clear hx212_0
    try clear hx212_1
    try clear hx212_2
    try clear hx213_0
    try clear hx213_1
    try clear hx213_2
    try clear hx214_0
    try clear hx214_1
    try clear hx214_2
    try clear hx215_0
    try clear hx215_1
    try clear hx215_2
    try clear p2
    try clear p21
    try clear p212
    try clear p213
    try clear p214
    try clear p215
    try clear p25
    try clear p6
    try clear q2
    try clear q21
    try clear q212
    try clear q213
    try clear q214
    try clear q215
    try clear q25
    obtain ⟨x12_4, rfl, HA, HK4, HO_7, BK204, BK211, HB⟩ := hrel
    rename_i y1_ y2_ y3_ y4_ y5_ y6_ y7_ y8_ y9_ y10_ y11_ y12_ y13_ y14_ y15_ y16_ y17_ y18_ y19_ y20_ y21_ y22_ y23_ y24_ y25_ y26_ y27_ y28_ y29_ y30_ y31_ y32_ y33_ y34_ y35_ y36_ y37_ y38_ y39_ y40_ y41_ y42_ y43_ y44_ y45_ y46_ y47_ y48_ y49_ y50_ y51_ y52_ y53_ y54_ y55_ y56_ y57_ y58_ y59_ y60_ y61_ y62_ y63_ y64_ y65_
    exact watchwordlaw21_PathsTriangle.round k a0_0 a0_1 a0_2 a0_3 a0_4 a0_5 a0_6 a0_7 a0_8 a0_9 a0_10 a0_11 a0_12 a0_13 a0_14 a0_15 a1 a2 r w hu23 hu44 HT A4 t206 t209 A6 t210 A7 gb204 w10 GW204 GE204 w11 w13 z2_ z3_ nd wc u20 u21 u22 u23 u24 u25 u26 u27 u28 u29 u30 u31 u32 u33 u34 u35 u36 u37 u38 z4_ z5_ z6_ z7_ z8_ z9_ z10_ z11_ z12_ z13_ z14_ z15_ z16_ z17_ z18_ z19_ z20_ z21_ z22_ z23_ z24_ z25_ z26_ z27_ z28_ z29_ z30_ z31_ z32_ z33_ z34_ z35_ z36_ z37_ z38_ z39_ z40_ z41_ z42_ z43_ z44_ z45_ z46_ z47_ z48_ z49_ z50_ z51_ z52_ z53_ z54_ z55_ z56_ z57_ z58_ z59_ z60_ z61_ z62_ z63_ z64_ z65_ z66_ z67_ z68_ z69_ z70_ z71_ z72_ z73_ z74_ z75_ z76_ z77_ z78_ z79_ z80_ z81_ z82_ z83_ z84_ z85_ z86_ z87_ z88_ z89_ z90_ u127 u128 u129 u130 u131 u132 u133 u134 u135 u136 u137 u138 u139 u140 u141 u142 u143 u144 u145 u146 u147 u148 u149 u150 u151 u152 u153 u154 u155 u156 u157 u158 u159 u160 u161 u162 u163 u164 u165 u166 u167 u168 u169 u170 u171 u172 u173 u174 u175 u176 u177 u178 u179 u180 u181 u182 u183 u184 u185 u186 u187 u188 u189 u190 u191 u192 u193 u194 u195 u196 u197 u198 u199 u200 u201 u202 u203 u204 u205 u206 kj8 HJ8 gb211 w16 z91_ z92_ z93_ GW211 GE211 NB204_211 NB211_204 z94_ z95_ z96_ u40 u41 u42 u43 u44 u45 u46 u47 u48 u49 u50 u51 u52 u53 u54 u55 u56 u57 u58 u59 u60 u61 u62 u63 u64 u65 u66 u67 u68 u69 u70 z97_ z98_ x10_2 x212000_2 x212001_2 x212002_2 x212003_2 x212004_2 z99_ z100_ z101_ k2 z102_ HK2 Ao27 co27 HO208 z103_ z104_ z105_ z106_ z107_ z108_ z109_ y1_ y2_ u12 y3_ u71 u72 u73 u74 y4_ y5_ y6_ y7_ y8_ y9_ y10_ y11_ y12_ y13_ y14_ y15_ y16_ y17_ y18_ y19_ y20_ y21_ y22_ y23_ y24_ y25_ y26_ y27_ y28_ y29_ y30_ y31_ y32_ y33_ y34_ y35_ y36_ y37_ y38_ y39_ y40_ y41_ y42_ y43_ y44_ y45_ y46_ y47_ y48_ y49_ y50_ y51_ y52_ y53_ y54_ y55_ z110_ z111_ z112_ x11_3 y56_ y57_ y58_ y59_ k3 z113_ HK3 y60_ y61_ gk wr u6 u13 u75 u76 u77 u78 u79 u80 u81 u82 u83 u84 u85 u86 u87 u88 u89 u90 u91 u92 u93 u94 u95 u96 u97 u98 u99 u100 u101 u102 u103 u104 u105 u106 u107 u108 u109 u110 u111 u112 u113 u114 u115 u116 u117 u118 u119 u120 u121 u122 u123 u124 u125 u126 y62_ y63_ y64_ y65_ x12_4 HA HK4 HO_7 BK204 BK211 HB
  ·rw [if_neg c28] at H
   have c28b0 : decide (x11_3 ≤ 4) = false := decide_eq_false c28
   clear c28
   by_cases c105 : 0 ≤ (Go.bits .and .i64 a2 3)
   ·rw [if_pos c105] at H
    have c105b0 : decide (0 ≤ (Go.bits .and .i64 a2 3)) = true := decide_eq_true c105
    clear c105
    by_cases c106 : (Go.bits .and .i64 a2 3) < 4
    ·rw [if_pos c106] at H
     have c106b0 : decide ((Go.bits .and .i64 a2 3) < 4) = true := decide_eq_true c106
     clear c106
     obtain ⟨ji107, hji107⟩ : ∃ j_ : Int, (Go.bits .and .i64 (a2 / 4) 3) = j_ := ⟨_, rfl⟩
     replace H : (if 0 ≤ (ji107) then (if (ji107) < 4 then (if (ix4 (ix4 a0_0 a0_1 a0_2 a0_3 (ji107)) (ix4 a0_4 a0_5 a0_6 a0_7 (ji107)) (ix4 a0_8 a0_9 a0_10 a0_11 (ji107)) (ix4 a0_12 a0_13 a0_14 a0_15 (ji107)) (Go.bits .and .i64 a2 3)) > 1 then (watchwordlaw21_PathsTriangle.j4 k3 a1 t206 (up ((Go.bits .and .i64 a2 3) == 0 && (ji107) == 0) (wrap64 ((ix4 (ix4 a0_0 a0_1 a0_2 a0_3 (ji107)) (ix4 a0_4 a0_5 a0_6 a0_7 (ji107)) (ix4 a0_8 a0_9 a0_10 a0_11 (ji107)) (ix4 a0_12 a0_13 a0_14 a0_15 (ji107)) (Go.bits .and .i64 a2 3)) - 1)) a0_0) (up ((Go.bits .and .i64 a2 3) == 0 && (ji107) == 1) (wrap64 ((ix4 (ix4 a0_0 a0_1 a0_2 a0_3 (ji107)) (ix4 a0_4 a0_5 a0_6 a0_7 (ji107)) (ix4 a0_8 a0_9 a0_10 a0_11 (ji107)) (ix4 a0_12 a0_13 a0_14 a0_15 (ji107)) (Go.bits .and .i64 a2 3)) - 1)) a0_1) (up ((Go.bits .and .i64 a2 3) == 0 && (ji107) == 2) (wrap64 ((ix4 (ix4 a0_0 a0_1 a0_2 a0_3 (ji107)) (ix4 a0_4 a0_5 a0_6 a0_7 (ji107)) (ix4 a0_8 a0_9 a0_10 a0_11 (ji107)) (ix4 a0_12 a0_13 a0_14 a0_15 (ji107)) (Go.bits .and .i64 a2 3)) - 1)) a0_2) (up ((Go.bits .and .i64 a2 3) == 0 && (ji107) == 3) (wrap64 ((ix4 (ix4 a0_0 a0_1 a0_2 a0_3 (ji107)) (ix4 a0_4 a0_5 a0_6 a0_7 (ji107)) (ix4 a0_8 a0_9 a0_10 a0_11 (ji107)) (ix4 a0_12 a0_13 a0_14 a0_15 (ji107)) (Go.bits .and .i64 a2 3)) - 1)) a0_3) (up ((Go.bits .and .i64 a2 3) == 1 && (ji107) == 0) (wrap64 ((ix4 (ix4 a0_0 a0_1 a0_2 a0_3 (ji107)) (ix4 a0_4 a0_5 a0_6 a0_7 (ji107)) (ix4 a0_8 a0_9 a0_10 a0_11 (ji107)) (ix4 a0_12 a0_13 a0_14 a0_15 (ji107)) (Go.bits .and .i64 a2 3)) - 1)) a0_4) (up ((Go.bits .and .i64 a2 3) == 1 && (ji107) == 1) (wrap64 ((ix4 (ix4 a0_0 a0_1 a0_2 a0_3 (ji107)) (ix4 a0_4 a0_5 a0_6 a0_7 (ji107)) (ix4 a0_8 a0_9 a0_10 a0_11 (ji107)) (ix4 a0_12 a0_13 a0_14 a0_15 (ji107)) (Go.bits .and .i64 a2 3)) - 1)) a0_5) (up ((Go.bits .and .i64 a2 3) == 1 && (ji107) == 2) (wrap64 ((ix4 (ix4 a0_0 a0_1 a0_2 a0_3 (ji107)) (ix4 a0_4 a0_5 a0_6 a0_7 (ji107)) (ix4 a0_8 a0_9 a0_10 a0_11 (ji107)) (ix4 a0_12 a0_13 a0_14 a0_15 (ji107)) (Go.bits .and .i64 a2 3)) - 1)) a0_6) (up ((Go.bits .and .i64 a2 3) == 1 && (ji107) == 3) (wrap64 ((ix4 (ix4 a0_0 a0_1 a0_2 a0_3 (ji107)) (ix4 a0_4 a0_5 a0_6 a0_7 (ji107)) (ix4 a0_8 a0_9 a0_10 a0_11 (ji107)) (ix4 a0_12 a0_13 a0_14 a0_15 (ji107)) (Go.bits .and .i64 a2 3)) - 1)) a0_7) (up ((Go.bits .and .i64 a2 3) == 2 && (ji107) == 0) (wrap64 ((ix4 (ix4 a0_0 a0_1 a0_2 a0_3 (ji107)) (ix4 a0_4 a0_5 a0_6 a0_7 (ji107)) (ix4 a0_8 a0_9 a0_10 a0_11 (ji107)) (ix4 a0_12 a0_13 a0_14 a0_15 (ji107)) (Go.bits .and .i64 a2 3)) - 1)) a0_8) (up ((Go.bits .and .i64 a2 3) == 2 && (ji107) == 1) (wrap64 ((ix4 (ix4 a0_0 a0_1 a0_2 a0_3 (ji107)) (ix4 a0_4 a0_5 a0_6 a0_7 (ji107)) (ix4 a0_8 a0_9 a0_10 a0_11 (ji107)) (ix4 a0_12 a0_13 a0_14 a0_15 (ji107)) (Go.bits .and .i64 a2 3)) - 1)) a0_9) (up ((Go.bits .and .i64 a2 3) == 2 && (ji107) == 2) (wrap64 ((ix4 (ix4 a0_0 a0_1 a0_2 a0_3 (ji107)) (ix4 a0_4 a0_5 a0_6 a0_7 (ji107)) (ix4 a0_8 a0_9 a0_10 a0_11 (ji107)) (ix4 a0_12 a0_13 a0_14 a0_15 (ji107)) (Go.bits .and .i64 a2 3)) - 1)) a0_10) (up ((Go.bits .and .i64 a2 3) == 2 && (ji107) == 3) (wrap64 ((ix4 (ix4 a0_0 a0_1 a0_2 a0_3 (ji107)) (ix4 a0_4 a0_5 a0_6 a0_7 (ji107)) (ix4 a0_8 a0_9 a0_10 a0_11 (ji107)) (ix4 a0_12 a0_13 a0_14 a0_15 (ji107)) (Go.bits .and .i64 a2 3)) - 1)) a0_11) (up ((Go.bits .and .i64 a2 3) == 3 && (ji107) == 0) (wrap64 ((ix4 (ix4 a0_0 a0_1 a0_2 a0_3 (ji107)) (ix4 a0_4 a0_5 a0_6 a0_7 (ji107)) (ix4 a0_8 a0_9 a0_10 a0_11 (ji107)) (ix4 a0_12 a0_13 a0_14 a0_15 (ji107)) (Go.bits .and .i64 a2 3)) - 1)) a0_12) (up ((Go.bits .and .i64 a2 3) == 3 && (ji107) == 1) (wrap64 ((ix4 (ix4 a0_0 a0_1 a0_2 a0_3 (ji107)) (ix4 a0_4 a0_5 a0_6 a0_7 (ji107)) (ix4 a0_8 a0_9 a0_10 a0_11 (ji107)) (ix4 a0_12 a0_13 a0_14 a0_15 (ji107)) (Go.bits .and .i64 a2 3)) - 1)) a0_13) (up ((Go.bits .and .i64 a2 3) == 3 && (ji107) == 2) (wrap64 ((ix4 (ix4 a0_0 a0_1 a0_2 a0_3 (ji107)) (ix4 a0_4 a0_5 a0_6 a0_7 (ji107)) (ix4 a0_8 a0_9 a0_10 a0_11 (ji107)) (ix4 a0_12 a0_13 a0_14 a0_15 (ji107)) (Go.bits .and .i64 a2 3)) - 1)) a0_14) (up ((Go.bits .and .i64 a2 3) == 3 && (ji107) == 3) (wrap64 ((ix4 (ix4 a0_0 a0_1 a0_2 a0_3 (ji107)) (ix4 a0_4 a0_5 a0_6 a0_7 (ji107)) (ix4 a0_8 a0_9 a0_10 a0_11 (ji107)) (ix4 a0_12 a0_13 a0_14 a0_15 (ji107)) (Go.bits .and .i64 a2 3)) - 1)) a0_15)) else (watchwordlaw21_PathsTriangle.j4 k3 a1 t206 a0_0 a0_1 a0_2 a0_3 a0_4 a0_5 a0_6 a0_7 a0_8 a0_9 a0_10 a0_11 a0_12 a0_13 a0_14 a0_15)) else (none)) else (none)) = some r := by first | (rw [hji107] at H; exact H) | (simp only [hji107] at H ⊢; exact H)
     by_cases c108 : 0 ≤ (ji107)
     ·rw [if_pos c108] at H
      have c108b0 : decide (0 ≤ (ji107)) = true := decide_eq_true c108
      clear c108
      by_cases c109 : (ji107) < 4
      ·rw [if_pos c109] at H
       have c109b0 : decide ((ji107) < 4) = true := decide_eq_true c109
       clear c109
       have HC110 := Aside0.mk H
       clear H
       have hnb111 := NB204_211.out
       have hnc111 := NB211_204.out
       obtain ⟨hcz112_0, hcz112_1, hcz112_2, hcz112_3, hcz112_4, hcz112_5, hcz112_6, hcz112_7, hcz112_8, hcz112_9, hcz112_10, hcz112_11, hcz112_12, hcz112_13, hcz112_14, hcz112_15⟩ := cells16 BK204.out
       have hfz112_0 := fun (j_ : Nat) => blk_frozen BK204.out j_
       go_upto_if 138 with (first | ((with_reducible refine gate_dst (N := 14) rfl ?_); (try (refine gate_guard (by rfl) ?_; dsimp only)); refine box_event ?hg (N := 14) ?hd (cs := #[.int .i64 0, .int .i64 0, .int .i64 0, .int .i64 0, .int .i64 0, .int .i64 0, .int .i64 0, .int .i64 0, .int .i64 0, .int .i64 0, .int .i64 0, .int .i64 0, .int .i64 0, .int .i64 0, .int .i64 0, .int .i64 0]) (t := 23) ?hr ?_; (case hd => rfl); (case hg => rfl); (case hr => first | (go_simp; done) | (go_simp; rfl)); intro gb216 hg w113 hbox hb; have n0_ := Aside0.mk (Kd.S_below (by (with_reducible repeat (first | apply Kd.S_alloc | apply Kd.S_drewN | apply Kd.S_drew)); exact HO_7.out) hb); have n1_ := Aside0.mk (blk_below (g := gb204) (o := .cells #[.int .i64 a0_0, .int .i64 a0_1, .int .i64 a0_2, .int .i64 a0_3, .int .i64 a0_4, .int .i64 a0_5, .int .i64 a0_6, .int .i64 a0_7, .int .i64 a0_8, .int .i64 a0_9, .int .i64 a0_10, .int .i64 a0_11, .int .i64 a0_12, .int .i64 a0_13, .int .i64 a0_14, .int .i64 a0_15] 23 (0, 0)) (by (with_reducible repeat (first | refine blk_drewN ?_ _ | refine blk_drew ?_ | refine blk_alloc ?_ _)); exact BK204.out) hb); have n2_ := Aside0.mk (blk_below (g := gb211) (o := .cells #[.int .i64 x212000_2, .int .i64 x212001_2, .int .i64 x212002_2, .int .i64 x212003_2, .int .i64 x212004_2] 44 (0, 0)) (by (with_reducible repeat (first | refine blk_drewN ?_ _ | refine blk_drew ?_ | refine blk_alloc ?_ _)); exact BK211.out) hb); have n3_ := Aside0.mk (below_step (by repeat (first | (with_reducible first | exact HB.out | apply below_alloc | apply pw_below_drewN | apply below_drew1 | refine below_set ?_ GE204.out | refine below_set ?_ GE211.out) | exact HB.out)) hb); have n4_ := Aside0.mk (hbox); have n5_ := Aside0.mk ((by rw [hg]; exact (below_size (by repeat (first | (with_reducible first | exact HB.out | apply below_alloc | apply pw_below_drewN | apply below_drew1 | refine below_set ?_ GE204.out | refine below_set ?_ GE211.out) | exact HB.out))) : w.heap.size ≤ gb216)); have n6_ := Aside0.mk ((by rw [hg]; exact (below_size (by repeat (first | (with_reducible first | exact HB.out | apply below_alloc | apply pw_below_drewN | apply below_drew1 | refine below_set ?_ GE204.out | refine below_set ?_ GE211.out) | exact HB.out))) : w.heap.size ≤ gb216)); have n7_ := Aside0.mk ((by rw [hg]; exact Nat.ne_of_lt (blk_lt (g := gb204) (o := .cells #[.int .i64 a0_0, .int .i64 a0_1, .int .i64 a0_2, .int .i64 a0_3, .int .i64 a0_4, .int .i64 a0_5, .int .i64 a0_6, .int .i64 a0_7, .int .i64 a0_8, .int .i64 a0_9, .int .i64 a0_10, .int .i64 a0_11, .int .i64 a0_12, .int .i64 a0_13, .int .i64 a0_14, .int .i64 a0_15] 23 (0, 0)) (by (with_reducible repeat (first | refine blk_drewN ?_ _ | refine blk_drew ?_ | refine blk_alloc ?_ _)); exact BK204.out)) : gb204 ≠ gb216)); have n8_ := Aside0.mk ((by rw [hg]; exact Nat.ne_of_gt (blk_lt (g := gb204) (o := .cells #[.int .i64 a0_0, .int .i64 a0_1, .int .i64 a0_2, .int .i64 a0_3, .int .i64 a0_4, .int .i64 a0_5, .int .i64 a0_6, .int .i64 a0_7, .int .i64 a0_8, .int .i64 a0_9, .int .i64 a0_10, .int .i64 a0_11, .int .i64 a0_12, .int .i64 a0_13, .int .i64 a0_14, .int .i64 a0_15] 23 (0, 0)) (by (with_reducible repeat (first | refine blk_drewN ?_ _ | refine blk_drew ?_ | refine blk_alloc ?_ _)); exact BK204.out)) : gb216 ≠ gb204)); have n9_ := Aside0.mk ((by rw [hg]; exact Nat.ne_of_lt (blk_lt (g := gb211) (o := .cells #[.int .i64 x212000_2, .int .i64 x212001_2, .int .i64 x212002_2, .int .i64 x212003_2, .int .i64 x212004_2] 44 (0, 0)) (by (with_reducible repeat (first | refine blk_drewN ?_ _ | refine blk_drew ?_ | refine blk_alloc ?_ _)); exact BK211.out)) : gb211 ≠ gb216)); have n10_ := Aside0.mk ((by rw [hg]; exact Nat.ne_of_gt (blk_lt (g := gb211) (o := .cells #[.int .i64 x212000_2, .int .i64 x212001_2, .int .i64 x212002_2, .int .i64 x212003_2, .int .i64 x212004_2] 44 (0, 0)) (by (with_reducible repeat (first | refine blk_drewN ?_ _ | refine blk_drew ?_ | refine blk_alloc ?_ _)); exact BK211.out)) : gb216 ≠ gb211)); clear HO_7; clear BK204; clear BK211; clear HB; have HO_7 := n0_; have BK204 := n1_; have BK211 := n2_; have HB := n3_; have BK216 := n4_; have GW216 := n5_; have GE216 := n6_; have NB204_216 := n7_; have NB216_204 := n8_; have NB211_216 := n9_; have NB216_211 := n10_; clear n0_ n1_ n2_ n3_ n4_ n5_ n6_ n7_ n8_ n9_ n10_; clear hb hbox hg; have hnb114 := NB216_204.out; have hnc114 := NB204_216.out; have hnb115 := NB216_211.out; have hnc115 := NB211_216.out; obtain ⟨hcz116_0, hcz116_1, hcz116_2, hcz116_3, hcz116_4, hcz116_5, hcz116_6, hcz116_7, hcz116_8, hcz116_9, hcz116_10, hcz116_11, hcz116_12, hcz116_13, hcz116_14, hcz116_15⟩ := cells16 BK216.out; have hfz116_0 := fun (j_ : Nat) => blk_frozen BK216.out j_) | ((with_reducible refine gate_store (t := 23) (p := 14) rfl ?_); refine store_event (t := 23) (p := 14) (v := ?vo_w117) (w1 := ((((((((((((((((w113.setCell ⟨gb216, 0, none⟩ (.int .i64 a0_0)).setCell ⟨gb216, 1, none⟩ (.int .i64 a0_1)).setCell ⟨gb216, 2, none⟩ (.int .i64 a0_2)).setCell ⟨gb216, 3, none⟩ (.int .i64 a0_3)).setCell ⟨gb216, 4, none⟩ (.int .i64 a0_4)).setCell ⟨gb216, 5, none⟩ (.int .i64 a0_5)).setCell ⟨gb216, 6, none⟩ (.int .i64 a0_6)).setCell ⟨gb216, 7, none⟩ (.int .i64 a0_7)).setCell ⟨gb216, 8, none⟩ (.int .i64 a0_8)).setCell ⟨gb216, 9, none⟩ (.int .i64 a0_9)).setCell ⟨gb216, 10, none⟩ (.int .i64 a0_10)).setCell ⟨gb216, 11, none⟩ (.int .i64 a0_11)).setCell ⟨gb216, 12, none⟩ (.int .i64 a0_12)).setCell ⟨gb216, 13, none⟩ (.int .i64 a0_13)).setCell ⟨gb216, 14, none⟩ (.int .i64 a0_14)).setCell ⟨gb216, 15, none⟩ (.int .i64 a0_15))) ?hg ?ho ?hn ?hr ?_; (case ho => rfl); (case hg => rfl); (case hn => rfl); (case hr => first | (go_simp; done) | (go_simp; rfl)); intro w117 hw; have n0_ : Aside0 (Kd.S k41 41 w117 w.heap.size (fun _ => True) (.slice Ao27 t206.length co27) t206) := ⟨(by rw [hw]; exact (by (with_reducible repeat (first | apply Kd.S_alloc | apply Kd.S_drewN | apply Kd.S_drew)); exact Kd.S_mono (Kd.S_far (p := ⟨gb216, 15, none⟩) (Kd.S_far (p := ⟨gb216, 14, none⟩) (Kd.S_far (p := ⟨gb216, 13, none⟩) (Kd.S_far (p := ⟨gb216, 12, none⟩) (Kd.S_far (p := ⟨gb216, 11, none⟩) (Kd.S_far (p := ⟨gb216, 10, none⟩) (Kd.S_far (p := ⟨gb216, 9, none⟩) (Kd.S_far (p := ⟨gb216, 8, none⟩) (Kd.S_far (p := ⟨gb216, 7, none⟩) (Kd.S_far (p := ⟨gb216, 6, none⟩) (Kd.S_far (p := ⟨gb216, 5, none⟩) (Kd.S_far (p := ⟨gb216, 4, none⟩) (Kd.S_far (p := ⟨gb216, 3, none⟩) (Kd.S_far (p := ⟨gb216, 2, none⟩) (Kd.S_far (p := ⟨gb216, 1, none⟩) (Kd.S_far (p := ⟨gb216, 0, none⟩) (Kd.S_types HO_7.out BK216.out (by decide)) (fun _ hk => hk.2) (.int .i64 a0_0)) (fun _ hk => hk.2) (.int .i64 a0_1)) (fun _ hk => hk.2) (.int .i64 a0_2)) (fun _ hk => hk.2) (.int .i64 a0_3)) (fun _ hk => hk.2) (.int .i64 a0_4)) (fun _ hk => hk.2) (.int .i64 a0_5)) (fun _ hk => hk.2) (.int .i64 a0_6)) (fun _ hk => hk.2) (.int .i64 a0_7)) (fun _ hk => hk.2) (.int .i64 a0_8)) (fun _ hk => hk.2) (.int .i64 a0_9)) (fun _ hk => hk.2) (.int .i64 a0_10)) (fun _ hk => hk.2) (.int .i64 a0_11)) (fun _ hk => hk.2) (.int .i64 a0_12)) (fun _ hk => hk.2) (.int .i64 a0_13)) (fun _ hk => hk.2) (.int .i64 a0_14)) (fun _ hk => hk.2) (.int .i64 a0_15)) (fun _ hk => trivial)))⟩; have n1_ : Aside0 (w117.heap[gb204]? = some (.cells #[.int .i64 a0_0, .int .i64 a0_1, .int .i64 a0_2, .int .i64 a0_3, .int .i64 a0_4, .int .i64 a0_5, .int .i64 a0_6, .int .i64 a0_7, .int .i64 a0_8, .int .i64 a0_9, .int .i64 a0_10, .int .i64 a0_11, .int .i64 a0_12, .int .i64 a0_13, .int .i64 a0_14, .int .i64 a0_15] 23 (0, 0))) := ⟨(by rw [hw]; exact (by (with_reducible repeat (first | refine blk_drewN ?_ _ | refine blk_drew ?_ | refine blk_alloc ?_ _)); refine blk_far ?_ NB204_216.out _; (with_reducible repeat (first | refine blk_drewN ?_ _ | refine blk_drew ?_ | refine blk_alloc ?_ _)); refine blk_far ?_ NB204_216.out _; (with_reducible repeat (first | refine blk_drewN ?_ _ | refine blk_drew ?_ | refine blk_alloc ?_ _)); refine blk_far ?_ NB204_216.out _; (with_reducible repeat (first | refine blk_drewN ?_ _ | refine blk_drew ?_ | refine blk_alloc ?_ _)); refine blk_far ?_ NB204_216.out _; (with_reducible repeat (first | refine blk_drewN ?_ _ | refine blk_drew ?_ | refine blk_alloc ?_ _)); refine blk_far ?_ NB204_216.out _; (with_reducible repeat (first | refine blk_drewN ?_ _ | refine blk_drew ?_ | refine blk_alloc ?_ _)); refine blk_far ?_ NB204_216.out _; (with_reducible repeat (first | refine blk_drewN ?_ _ | refine blk_drew ?_ | refine blk_alloc ?_ _)); refine blk_far ?_ NB204_216.out _; (with_reducible repeat (first | refine blk_drewN ?_ _ | refine blk_drew ?_ | refine blk_alloc ?_ _)); refine blk_far ?_ NB204_216.out _; (with_reducible repeat (first | refine blk_drewN ?_ _ | refine blk_drew ?_ | refine blk_alloc ?_ _)); refine blk_far ?_ NB204_216.out _; (with_reducible repeat (first | refine blk_drewN ?_ _ | refine blk_drew ?_ | refine blk_alloc ?_ _)); refine blk_far ?_ NB204_216.out _; (with_reducible repeat (first | refine blk_drewN ?_ _ | refine blk_drew ?_ | refine blk_alloc ?_ _)); refine blk_far ?_ NB204_216.out _; (with_reducible repeat (first | refine blk_drewN ?_ _ | refine blk_drew ?_ | refine blk_alloc ?_ _)); refine blk_far ?_ NB204_216.out _; (with_reducible repeat (first | refine blk_drewN ?_ _ | refine blk_drew ?_ | refine blk_alloc ?_ _)); refine blk_far ?_ NB204_216.out _; (with_reducible repeat (first | refine blk_drewN ?_ _ | refine blk_drew ?_ | refine blk_alloc ?_ _)); refine blk_far ?_ NB204_216.out _; (with_reducible repeat (first | refine blk_drewN ?_ _ | refine blk_drew ?_ | refine blk_alloc ?_ _)); refine blk_far ?_ NB204_216.out _; (with_reducible repeat (first | refine blk_drewN ?_ _ | refine blk_drew ?_ | refine blk_alloc ?_ _)); refine blk_far ?_ NB204_216.out _; (with_reducible repeat (first | refine blk_drewN ?_ _ | refine blk_drew ?_ | refine blk_alloc ?_ _)); exact BK204.out))⟩; have n2_ : Aside0 (w117.heap[gb211]? = some (.cells #[.int .i64 x212000_2, .int .i64 x212001_2, .int .i64 x212002_2, .int .i64 x212003_2, .int .i64 x212004_2] 44 (0, 0))) := ⟨(by rw [hw]; exact (by (with_reducible repeat (first | refine blk_drewN ?_ _ | refine blk_drew ?_ | refine blk_alloc ?_ _)); refine blk_far ?_ NB211_216.out _; (with_reducible repeat (first | refine blk_drewN ?_ _ | refine blk_drew ?_ | refine blk_alloc ?_ _)); refine blk_far ?_ NB211_216.out _; (with_reducible repeat (first | refine blk_drewN ?_ _ | refine blk_drew ?_ | refine blk_alloc ?_ _)); refine blk_far ?_ NB211_216.out _; (with_reducible repeat (first | refine blk_drewN ?_ _ | refine blk_drew ?_ | refine blk_alloc ?_ _)); refine blk_far ?_ NB211_216.out _; (with_reducible repeat (first | refine blk_drewN ?_ _ | refine blk_drew ?_ | refine blk_alloc ?_ _)); refine blk_far ?_ NB211_216.out _; (with_reducible repeat (first | refine blk_drewN ?_ _ | refine blk_drew ?_ | refine blk_alloc ?_ _)); refine blk_far ?_ NB211_216.out _; (with_reducible repeat (first | refine blk_drewN ?_ _ | refine blk_drew ?_ | refine blk_alloc ?_ _)); refine blk_far ?_ NB211_216.out _; (with_reducible repeat (first | refine blk_drewN ?_ _ | refine blk_drew ?_ | refine blk_alloc ?_ _)); refine blk_far ?_ NB211_216.out _; (with_reducible repeat (first | refine blk_drewN ?_ _ | refine blk_drew ?_ | refine blk_alloc ?_ _)); refine blk_far ?_ NB211_216.out _; (with_reducible repeat (first | refine blk_drewN ?_ _ | refine blk_drew ?_ | refine blk_alloc ?_ _)); refine blk_far ?_ NB211_216.out _; (with_reducible repeat (first | refine blk_drewN ?_ _ | refine blk_drew ?_ | refine blk_alloc ?_ _)); refine blk_far ?_ NB211_216.out _; (with_reducible repeat (first | refine blk_drewN ?_ _ | refine blk_drew ?_ | refine blk_alloc ?_ _)); refine blk_far ?_ NB211_216.out _; (with_reducible repeat (first | refine blk_drewN ?_ _ | refine blk_drew ?_ | refine blk_alloc ?_ _)); refine blk_far ?_ NB211_216.out _; (with_reducible repeat (first | refine blk_drewN ?_ _ | refine blk_drew ?_ | refine blk_alloc ?_ _)); refine blk_far ?_ NB211_216.out _; (with_reducible repeat (first | refine blk_drewN ?_ _ | refine blk_drew ?_ | refine blk_alloc ?_ _)); refine blk_far ?_ NB211_216.out _; (with_reducible repeat (first | refine blk_drewN ?_ _ | refine blk_drew ?_ | refine blk_alloc ?_ _)); refine blk_far ?_ NB211_216.out _; (with_reducible repeat (first | refine blk_drewN ?_ _ | refine blk_drew ?_ | refine blk_alloc ?_ _)); exact BK211.out))⟩; have n3_ : Aside0 (w117.heap[gb216]? = some (.cells #[.int .i64 a0_0, .int .i64 a0_1, .int .i64 a0_2, .int .i64 a0_3, .int .i64 a0_4, .int .i64 a0_5, .int .i64 a0_6, .int .i64 a0_7, .int .i64 a0_8, .int .i64 a0_9, .int .i64 a0_10, .int .i64 a0_11, .int .i64 a0_12, .int .i64 a0_13, .int .i64 a0_14, .int .i64 a0_15] 23 (0, 0))) := ⟨(by rw [hw]; exact (by (with_reducible repeat (first | refine blk_drewN ?_ _ | refine blk_drew ?_ | refine blk_alloc ?_ _)); refine blk_put (cs := #[.int .i64 a0_0, .int .i64 a0_1, .int .i64 a0_2, .int .i64 a0_3, .int .i64 a0_4, .int .i64 a0_5, .int .i64 a0_6, .int .i64 a0_7, .int .i64 a0_8, .int .i64 a0_9, .int .i64 a0_10, .int .i64 a0_11, .int .i64 a0_12, .int .i64 a0_13, .int .i64 a0_14, .int .i64 0]) ?_ 15 _ rfl; (with_reducible repeat (first | refine blk_drewN ?_ _ | refine blk_drew ?_ | refine blk_alloc ?_ _)); refine blk_put (cs := #[.int .i64 a0_0, .int .i64 a0_1, .int .i64 a0_2, .int .i64 a0_3, .int .i64 a0_4, .int .i64 a0_5, .int .i64 a0_6, .int .i64 a0_7, .int .i64 a0_8, .int .i64 a0_9, .int .i64 a0_10, .int .i64 a0_11, .int .i64 a0_12, .int .i64 a0_13, .int .i64 0, .int .i64 0]) ?_ 14 _ rfl; (with_reducible repeat (first | refine blk_drewN ?_ _ | refine blk_drew ?_ | refine blk_alloc ?_ _)); refine blk_put (cs := #[.int .i64 a0_0, .int .i64 a0_1, .int .i64 a0_2, .int .i64 a0_3, .int .i64 a0_4, .int .i64 a0_5, .int .i64 a0_6, .int .i64 a0_7, .int .i64 a0_8, .int .i64 a0_9, .int .i64 a0_10, .int .i64 a0_11, .int .i64 a0_12, .int .i64 0, .int .i64 0, .int .i64 0]) ?_ 13 _ rfl; (with_reducible repeat (first | refine blk_drewN ?_ _ | refine blk_drew ?_ | refine blk_alloc ?_ _)); refine blk_put (cs := #[.int .i64 a0_0, .int .i64 a0_1, .int .i64 a0_2, .int .i64 a0_3, .int .i64 a0_4, .int .i64 a0_5, .int .i64 a0_6, .int .i64 a0_7, .int .i64 a0_8, .int .i64 a0_9, .int .i64 a0_10, .int .i64 a0_11, .int .i64 0, .int .i64 0, .int .i64 0, .int .i64 0]) ?_ 12 _ rfl; (with_reducible repeat (first | refine blk_drewN ?_ _ | refine blk_drew ?_ | refine blk_alloc ?_ _)); refine blk_put (cs := #[.int .i64 a0_0, .int .i64 a0_1, .int .i64 a0_2, .int .i64 a0_3, .int .i64 a0_4, .int .i64 a0_5, .int .i64 a0_6, .int .i64 a0_7, .int .i64 a0_8, .int .i64 a0_9, .int .i64 a0_10, .int .i64 0, .int .i64 0, .int .i64 0, .int .i64 0, .int .i64 0]) ?_ 11 _ rfl; (with_reducible repeat (first | refine blk_drewN ?_ _ | refine blk_drew ?_ | refine blk_alloc ?_ _)); refine blk_put (cs := #[.int .i64 a0_0, .int .i64 a0_1, .int .i64 a0_2, .int .i64 a0_3, .int .i64 a0_4, .int .i64 a0_5, .int .i64 a0_6, .int .i64 a0_7, .int .i64 a0_8, .int .i64 a0_9, .int .i64 0, .int .i64 0, .int .i64 0, .int .i64 0, .int .i64 0, .int .i64 0]) ?_ 10 _ rfl; (with_reducible repeat (first | refine blk_drewN ?_ _ | refine blk_drew ?_ | refine blk_alloc ?_ _)); refine blk_put (cs := #[.int .i64 a0_0, .int .i64 a0_1, .int .i64 a0_2, .int .i64 a0_3, .int .i64 a0_4, .int .i64 a0_5, .int .i64 a0_6, .int .i64 a0_7, .int .i64 a0_8, .int .i64 0, .int .i64 0, .int .i64 0, .int .i64 0, .int .i64 0, .int .i64 0, .int .i64 0]) ?_ 9 _ rfl; (with_reducible repeat (first | refine blk_drewN ?_ _ | refine blk_drew ?_ | refine blk_alloc ?_ _)); refine blk_put (cs := #[.int .i64 a0_0, .int .i64 a0_1, .int .i64 a0_2, .int .i64 a0_3, .int .i64 a0_4, .int .i64 a0_5, .int .i64 a0_6, .int .i64 a0_7, .int .i64 0, .int .i64 0, .int .i64 0, .int .i64 0, .int .i64 0, .int .i64 0, .int .i64 0, .int .i64 0]) ?_ 8 _ rfl; (with_reducible repeat (first | refine blk_drewN ?_ _ | refine blk_drew ?_ | refine blk_alloc ?_ _)); refine blk_put (cs := #[.int .i64 a0_0, .int .i64 a0_1, .int .i64 a0_2, .int .i64 a0_3, .int .i64 a0_4, .int .i64 a0_5, .int .i64 a0_6, .int .i64 0, .int .i64 0, .int .i64 0, .int .i64 0, .int .i64 0, .int .i64 0, .int .i64 0, .int .i64 0, .int .i64 0]) ?_ 7 _ rfl; (with_reducible repeat (first | refine blk_drewN ?_ _ | refine blk_drew ?_ | refine blk_alloc ?_ _)); refine blk_put (cs := #[.int .i64 a0_0, .int .i64 a0_1, .int .i64 a0_2, .int .i64 a0_3, .int .i64 a0_4, .int .i64 a0_5, .int .i64 0, .int .i64 0, .int .i64 0, .int .i64 0, .int .i64 0, .int .i64 0, .int .i64 0, .int .i64 0, .int .i64 0, .int .i64 0]) ?_ 6 _ rfl; (with_reducible repeat (first | refine blk_drewN ?_ _ | refine blk_drew ?_ | refine blk_alloc ?_ _)); refine blk_put (cs := #[.int .i64 a0_0, .int .i64 a0_1, .int .i64 a0_2, .int .i64 a0_3, .int .i64 a0_4, .int .i64 0, .int .i64 0, .int .i64 0, .int .i64 0, .int .i64 0, .int .i64 0, .int .i64 0, .int .i64 0, .int .i64 0, .int .i64 0, .int .i64 0]) ?_ 5 _ rfl; (with_reducible repeat (first | refine blk_drewN ?_ _ | refine blk_drew ?_ | refine blk_alloc ?_ _)); refine blk_put (cs := #[.int .i64 a0_0, .int .i64 a0_1, .int .i64 a0_2, .int .i64 a0_3, .int .i64 0, .int .i64 0, .int .i64 0, .int .i64 0, .int .i64 0, .int .i64 0, .int .i64 0, .int .i64 0, .int .i64 0, .int .i64 0, .int .i64 0, .int .i64 0]) ?_ 4 _ rfl; (with_reducible repeat (first | refine blk_drewN ?_ _ | refine blk_drew ?_ | refine blk_alloc ?_ _)); refine blk_put (cs := #[.int .i64 a0_0, .int .i64 a0_1, .int .i64 a0_2, .int .i64 0, .int .i64 0, .int .i64 0, .int .i64 0, .int .i64 0, .int .i64 0, .int .i64 0, .int .i64 0, .int .i64 0, .int .i64 0, .int .i64 0, .int .i64 0, .int .i64 0]) ?_ 3 _ rfl; (with_reducible repeat (first | refine blk_drewN ?_ _ | refine blk_drew ?_ | refine blk_alloc ?_ _)); refine blk_put (cs := #[.int .i64 a0_0, .int .i64 a0_1, .int .i64 0, .int .i64 0, .int .i64 0, .int .i64 0, .int .i64 0, .int .i64 0, .int .i64 0, .int .i64 0, .int .i64 0, .int .i64 0, .int .i64 0, .int .i64 0, .int .i64 0, .int .i64 0]) ?_ 2 _ rfl; (with_reducible repeat (first | refine blk_drewN ?_ _ | refine blk_drew ?_ | refine blk_alloc ?_ _)); refine blk_put (cs := #[.int .i64 a0_0, .int .i64 0, .int .i64 0, .int .i64 0, .int .i64 0, .int .i64 0, .int .i64 0, .int .i64 0, .int .i64 0, .int .i64 0, .int .i64 0, .int .i64 0, .int .i64 0, .int .i64 0, .int .i64 0, .int .i64 0]) ?_ 1 _ rfl; (with_reducible repeat (first | refine blk_drewN ?_ _ | refine blk_drew ?_ | refine blk_alloc ?_ _)); refine blk_put (cs := #[.int .i64 0, .int .i64 0, .int .i64 0, .int .i64 0, .int .i64 0, .int .i64 0, .int .i64 0, .int .i64 0, .int .i64 0, .int .i64 0, .int .i64 0, .int .i64 0, .int .i64 0, .int .i64 0, .int .i64 0, .int .i64 0]) ?_ 0 _ rfl; (with_reducible repeat (first | refine blk_drewN ?_ _ | refine blk_drew ?_ | refine blk_alloc ?_ _)); exact BK216.out))⟩; have n4_ : Aside0 (Below w.heap.size w w117) := ⟨(by rw [hw]; exact (by repeat (first | (with_reducible first | exact HB.out | apply below_alloc | apply pw_below_drewN | apply below_drew1 | refine below_set ?_ GE204.out | refine below_set ?_ GE211.out | refine below_set ?_ GE216.out) | exact HB.out)))⟩; clear hw; clear HO_7; clear BK204; clear BK211; clear BK216; clear HB; have HO_7 := n0_; have BK204 := n1_; have BK211 := n2_; have BK216 := n3_; have HB := n4_; clear n0_ n1_ n2_ n3_ n4_; have p118 : (0 ≤ ((Go.bits .and .i64 a2 3) : Int)) = True := eq_true (of_decide_eq_true (by first | (with_reducible assumption) | assumption)); have q118 : (((Go.bits .and .i64 a2 3) : Int) < 4) = True := eq_true (of_decide_eq_true (by first | (with_reducible assumption) | assumption)); have p119 : (0 ≤ ((ji107) : Int)) = True := eq_true (of_decide_eq_true (by first | (with_reducible assumption) | assumption)); have q119 : (((ji107) : Int) < 4) = True := eq_true (of_decide_eq_true (by first | (with_reducible assumption) | assumption)); have hx120_0 : w117.cell? ⟨gb216, (Go.bits .and .i64 a2 3).toNat * 4 + (ji107).toNat, none⟩ = some (.int .i64 (ix4 (ix4 a0_0 a0_1 a0_2 a0_3 (ji107)) (ix4 a0_4 a0_5 a0_6 a0_7 (ji107)) (ix4 a0_8 a0_9 a0_10 a0_11 (ji107)) (ix4 a0_12 a0_13 a0_14 a0_15 (ji107)) (Go.bits .and .i64 a2 3))) := (blk_cell BK216.out ((Go.bits .and .i64 a2 3).toNat * 4 + (ji107).toNat)).trans (ix_44 (Value.int .i64) _ _ _ _ _ _ _ _ _ _ _ _ _ _ _ _ (Go.bits .and .i64 a2 3) (ji107)  (of_decide_eq_true (by first | (with_reducible assumption) | assumption)) (of_decide_eq_true (by first | (with_reducible assumption) | assumption))  (of_decide_eq_true (by first | (with_reducible assumption) | assumption)) (of_decide_eq_true (by first | (with_reducible assumption) | assumption)))))
       (try simp only [Act.put, List.setIfInBounds_toArray, List.set_cons_zero, List.set_cons_succ])
       go_cut [] (fun wc => ∃ (kq : Nat) (x217000_109 : Int) (x217001_109 : Int) (x217002_109 : Int) (x217003_109 : Int) (x217004_109 : Int) (x217005_109 : Int) (x217006_109 : Int) (x217007_109 : Int) (x217008_109 : Int) (x217009_109 : Int) (x217010_109 : Int) (x217011_109 : Int) (x217012_109 : Int) (x217013_109 : Int) (x217014_109 : Int) (x217015_109 : Int), Aside0 (watchwordlaw21_PathsTriangle.j4 kq a1 t206 x217000_109 x217001_109 x217002_109 x217003_109 x217004_109 x217005_109 x217006_109 x217007_109 x217008_109 x217009_109 x217010_109 x217011_109 x217012_109 x217013_109 x217014_109 x217015_109 = some r) ∧ Aside0 (kq ≤ k3) ∧ Aside0 (Kd.S k41 41 wc w.heap.size (fun _ => True) (.slice Ao27 t206.length co27) t206) ∧ Aside0 (wc.heap[gb204]? = some (.cells #[.int .i64 a0_0, .int .i64 a0_1, .int .i64 a0_2, .int .i64 a0_3, .int .i64 a0_4, .int .i64 a0_5, .int .i64 a0_6, .int .i64 a0_7, .int .i64 a0_8, .int .i64 a0_9, .int .i64 a0_10, .int .i64 a0_11, .int .i64 a0_12, .int .i64 a0_13, .int .i64 a0_14, .int .i64 a0_15] 23 (0, 0))) ∧ Aside0 (wc.heap[gb211]? = some (.cells #[.int .i64 x212000_2, .int .i64 x212001_2, .int .i64 x212002_2, .int .i64 x212003_2, .int .i64 x212004_2] 44 (0, 0))) ∧ Aside0 (wc.heap[gb216]? = some (.cells #[.int .i64 x217000_109, .int .i64 x217001_109, .int .i64 x217002_109, .int .i64 x217003_109, .int .i64 x217004_109, .int .i64 x217005_109, .int .i64 x217006_109, .int .i64 x217007_109, .int .i64 x217008_109, .int .i64 x217009_109, .int .i64 x217010_109, .int .i64 x217011_109, .int .i64 x217012_109, .int .i64 x217013_109, .int .i64 x217014_109, .int .i64 x217015_109] 23 (0, 0))) ∧ Aside0 (Below w.heap.size w wc))
       case first =>
        have H := HC110.out
        clear HC110
        by_cases c121 : (ix4 (ix4 a0_0 a0_1 a0_2 a0_3 (ji107)) (ix4 a0_4 a0_5 a0_6 a0_7 (ji107)) (ix4 a0_8 a0_9 a0_10 a0_11 (ji107)) (ix4 a0_12 a0_13 a0_14 a0_15 (ji107)) (Go.bits .and .i64 a2 3)) > 1
        ·rw [if_pos c121] at H
         have c121b0 : decide (1 < (ix4 (ix4 a0_0 a0_1 a0_2 a0_3 (ji107)) (ix4 a0_4 a0_5 a0_6 a0_7 (ji107)) (ix4 a0_8 a0_9 a0_10 a0_11 (ji107)) (ix4 a0_12 a0_13 a0_14 a0_15 (ji107)) (Go.bits .and .i64 a2 3))) = true := decide_eq_true c121
         clear c121
         (first | rw [c121b0] | (simp only [i64_w, i32_w]; rw [c121b0]) | skip)
         focus
          have H' := Aside0.mk H
          clear H
          try go_wp2
          have n0_ := Aside0.mk (Kd.S_drew HO_7.out)
          have n1_ := Aside0.mk (blk_drew BK204.out)
          have n2_ := Aside0.mk (blk_drew BK211.out)
          have n3_ := Aside0.mk (blk_drew BK216.out)
          have n4_ := Aside0.mk (below_drew1 HB.out)
          clear HO_7
          clear BK204
          clear BK211
          clear BK216
          clear HB
          have HO_7 := n0_
          have BK204 := n1_
          have BK211 := n2_
          have BK216 := n3_
          have HB := n4_
          clear n0_ n1_ n2_ n3_ n4_
          have p123 : (0 ≤ ((Go.bits .and .i64 a2 3) : Int)) = True := eq_true (of_decide_eq_true (by first | (with_reducible assumption) | assumption))
          have q123 : (((Go.bits .and .i64 a2 3) : Int) < 4) = True := eq_true (of_decide_eq_true (by first | (with_reducible assumption) | assumption))
          have p124 : (0 ≤ ((ji107) : Int)) = True := eq_true (of_decide_eq_true (by first | (with_reducible assumption) | assumption))
          have q124 : (((ji107) : Int) < 4) = True := eq_true (of_decide_eq_true (by first | (with_reducible assumption) | assumption))
          have p126 : (0 ≤ ((Go.bits .and .i64 a2 3) : Int)) = True := eq_true (of_decide_eq_true (by first | (with_reducible assumption) | assumption))
          have q126 : (((Go.bits .and .i64 a2 3) : Int) < 4) = True := eq_true (of_decide_eq_true (by first | (with_reducible assumption) | assumption))
          have p127 : (0 ≤ ((ji107) : Int)) = True := eq_true (of_decide_eq_true (by first | (with_reducible assumption) | assumption))
          have q127 : (((ji107) : Int) < 4) = True := eq_true (of_decide_eq_true (by first | (with_reducible assumption) | assumption))
          refine start_ (n := 9) (S := fun w' => w'.cell? ⟨gb216, (Go.bits .and .i64 a2 3).toNat * 4 + (ji107).toNat, none⟩ = some (.int .i64 (ix4 (ix4 a0_0 a0_1 a0_2 a0_3 (ji107)) (ix4 a0_4 a0_5 a0_6 a0_7 (ji107)) (ix4 a0_8 a0_9 a0_10 a0_11 (ji107)) (ix4 a0_12 a0_13 a0_14 a0_15 (ji107)) (Go.bits .and .i64 a2 3)))) (ds := [8]) #[false, false, false, false, false, false, false, false, false] (by kernel_rfl) rfl rfl ((blk_cell BK216.out ((Go.bits .and .i64 a2 3).toNat * 4 + (ji107).toNat)).trans (ix_44 (Value.int .i64) _ _ _ _ _ _ _ _ _ _ _ _ _ _ _ _ (Go.bits .and .i64 a2 3) (ji107)  (of_decide_eq_true (by first | (with_reducible assumption) | assumption)) (of_decide_eq_true (by first | (with_reducible assumption) | assumption))  (of_decide_eq_true (by first | (with_reducible assumption) | assumption)) (of_decide_eq_true (by first | (with_reducible assumption) | assumption)))) (fun hHeld => ?_); refine with_tabW watchwordlaw21_PathsTriangle.tab27 watchwordlaw21_PathsTriangle.bits27 (fun HT_ HW_ => ?_)
          generalize w117.drew = w122 at HO_7 BK204 BK211 BK216 HB hHeld ⊢
          refine pure_ (i := 0) (N := some 139) (v := ?_) (a' := ?_) #[true, false, false, false, false, false, false, false, false] rfl rfl (any_of HT_.out (by kernel_rfl)) (fun _ _ _ h => h) (Or.inl ⟨by rfl, ?_⟩) ?_ ?_
          rotate_left
          ·intro w'
           go_simp
           with_reducible rfl
          rotate_left
          ·simp only [Act.put, List.setIfInBounds_toArray, List.set_cons_zero, List.set_cons_succ, i64_w, i32_w]
           rfl
          refine pure_ (i := 1) (N := some 140) (v := ?_) (a' := ?_) #[true, true, false, false, false, false, false, false, false] rfl rfl (any_of HT_.out (by kernel_rfl)) (fun _ _ _ h => h) (Or.inl ⟨by rfl, ?_⟩) ?_ ?_
          rotate_left
          ·intro w'
           go_simp
           with_reducible rfl
          rotate_left
          ·simp only [Act.put, List.setIfInBounds_toArray, List.set_cons_zero, List.set_cons_succ, i64_w, i32_w]
           rfl
          refine pure_ (i := 2) (N := some 141) (v := ?_) (a' := ?_) #[true, true, true, false, false, false, false, false, false] rfl rfl (any_of HT_.out (by kernel_rfl)) (fun _ _ _ h => h) (Or.inl ⟨by rfl, ?_⟩) ?_ ?_
          rotate_left
          ·intro w'
           go_simp
           with_reducible rfl
          rotate_left
          ·simp only [Act.put, List.setIfInBounds_toArray, List.set_cons_zero, List.set_cons_succ, i64_w, i32_w]
           rfl
          refine pure_ (i := 3) (N := some 142) (v := ?_) (a' := ?_) #[true, true, true, true, false, false, false, false, false] rfl rfl (any_of HT_.out (by kernel_rfl)) (fun _ _ _ h => h) (Or.inl ⟨by rfl, ?_⟩) ?_ ?_
          rotate_left
          ·intro w'
           go_simp
           with_reducible rfl
          rotate_left
          ·simp only [Act.put, List.setIfInBounds_toArray, List.set_cons_zero, List.set_cons_succ, i64_w, i32_w]
           rfl
          refine pure_ (i := 6) (N := some 145) (v := ?_) (a' := ?_) #[true, true, true, true, false, false, true, false, false] rfl rfl (any_of HT_.out (by kernel_rfl)) (fun _ _ _ h => h) (Or.inl ⟨by rfl, ?_⟩) ?_ ?_
          rotate_left
          ·intro w'
           go_simp
           with_reducible rfl
          rotate_left
          ·simp only [Act.put, List.setIfInBounds_toArray, List.set_cons_zero, List.set_cons_succ, i64_w, i32_w]
           rfl
          refine take_ (i := 4) (N := some 143) (v := ?_) (a' := ?_) #[true, true, true, true, true, false, true, false, false] rfl rfl (take_ofW HT_.out HW_.out (by kernel_rfl)) (fun _ _ _ h => h) (Or.inl ⟨by rfl, ?_⟩) hHeld ?_ ?_
          rotate_left
          ·intro w' s0
           go_simp
           with_reducible rfl
          rotate_left
          ·simp only [Act.put, List.setIfInBounds_toArray, List.set_cons_zero, List.set_cons_succ, i64_w, i32_w]
           rfl
          refine pure_ (i := 5) (N := some 144) (v := ?_) (a' := ?_) #[true, true, true, true, true, true, true, false, false] rfl rfl (any_of HT_.out (by kernel_rfl)) (fun _ _ _ h => h) (Or.inl ⟨by rfl, ?_⟩) ?_ ?_
          rotate_left
          ·intro w'
           go_simp
           with_reducible rfl
          rotate_left
          ·simp only [Act.put, List.setIfInBounds_toArray, List.set_cons_zero, List.set_cons_succ, i64_w, i32_w]
           rfl
          refine pure_ (i := 7) (N := some 146) (v := ?_) (a' := ?_) #[true, true, true, true, true, true, true, true, false] rfl rfl (any_of HT_.out (by kernel_rfl)) (fun _ _ _ h => h) (Or.inl ⟨by rfl, ?_⟩) ?_ ?_
          rotate_left
          ·intro w'
           go_simp
           with_reducible rfl
          rotate_left
          ·simp only [Act.put, List.setIfInBounds_toArray, List.set_cons_zero, List.set_cons_succ, i64_w, i32_w]
           rfl
          refine last_ (i := 8) (N := none) #[true, true, true, true, true, true, true, true, true] rfl rfl (one_of HT_.out (by kernel_rfl)) (by decide) (fun K hK => ?_)
          have hs128 : w122.cell? ⟨gb216, (Go.bits .and .i64 a2 3).toNat * 4 + (ji107).toNat, none⟩ = some (.int .i64 (ix4 (ix4 a0_0 a0_1 a0_2 a0_3 (ji107)) (ix4 a0_4 a0_5 a0_6 a0_7 (ji107)) (ix4 a0_8 a0_9 a0_10 a0_11 (ji107)) (ix4 a0_12 a0_13 a0_14 a0_15 (ji107)) (Go.bits .and .i64 a2 3))) := (blk_cell BK216.out ((Go.bits .and .i64 a2 3).toNat * 4 + (ji107).toNat)).trans (ix_44 (Value.int .i64) _ _ _ _ _ _ _ _ _ _ _ _ _ _ _ _ (Go.bits .and .i64 a2 3) (ji107)  (of_decide_eq_true (by first | (with_reducible assumption) | assumption)) (of_decide_eq_true (by first | (with_reducible assumption) | assumption))  (of_decide_eq_true (by first | (with_reducible assumption) | assumption)) (of_decide_eq_true (by first | (with_reducible assumption) | assumption)))
          have hfs128 := blk_frozen BK216.out ((Go.bits .and .i64 a2 3).toNat * 4 + (ji107).toNat)
          have hns128_0 := NB204_216.out
          have hns128_1 := NB211_216.out
          have hms128_0 := NB216_204.out
          have hms128_1 := NB216_211.out
          refine skip_ (w1 := ?_) (by rfl) rfl ?_ ?_
          rotate_left
          ·go_simp
           rfl
          refine hK.out _ _ ?_
          clear hK K
          refine done_ (done_of HT_.out (by kernel_rfl)) ?_
          try go_wp2
          go_meet
          case rel => exact ⟨_, (up ((Go.bits .and .i64 a2 3) == 0 && (ji107) == 0) (wrap64 ((ix4 (ix4 a0_0 a0_1 a0_2 a0_3 (ji107)) (ix4 a0_4 a0_5 a0_6 a0_7 (ji107)) (ix4 a0_8 a0_9 a0_10 a0_11 (ji107)) (ix4 a0_12 a0_13 a0_14 a0_15 (ji107)) (Go.bits .and .i64 a2 3)) - 1)) a0_0), (up ((Go.bits .and .i64 a2 3) == 0 && (ji107) == 1) (wrap64 ((ix4 (ix4 a0_0 a0_1 a0_2 a0_3 (ji107)) (ix4 a0_4 a0_5 a0_6 a0_7 (ji107)) (ix4 a0_8 a0_9 a0_10 a0_11 (ji107)) (ix4 a0_12 a0_13 a0_14 a0_15 (ji107)) (Go.bits .and .i64 a2 3)) - 1)) a0_1), (up ((Go.bits .and .i64 a2 3) == 0 && (ji107) == 2) (wrap64 ((ix4 (ix4 a0_0 a0_1 a0_2 a0_3 (ji107)) (ix4 a0_4 a0_5 a0_6 a0_7 (ji107)) (ix4 a0_8 a0_9 a0_10 a0_11 (ji107)) (ix4 a0_12 a0_13 a0_14 a0_15 (ji107)) (Go.bits .and .i64 a2 3)) - 1)) a0_2), (up ((Go.bits .and .i64 a2 3) == 0 && (ji107) == 3) (wrap64 ((ix4 (ix4 a0_0 a0_1 a0_2 a0_3 (ji107)) (ix4 a0_4 a0_5 a0_6 a0_7 (ji107)) (ix4 a0_8 a0_9 a0_10 a0_11 (ji107)) (ix4 a0_12 a0_13 a0_14 a0_15 (ji107)) (Go.bits .and .i64 a2 3)) - 1)) a0_3), (up ((Go.bits .and .i64 a2 3) == 1 && (ji107) == 0) (wrap64 ((ix4 (ix4 a0_0 a0_1 a0_2 a0_3 (ji107)) (ix4 a0_4 a0_5 a0_6 a0_7 (ji107)) (ix4 a0_8 a0_9 a0_10 a0_11 (ji107)) (ix4 a0_12 a0_13 a0_14 a0_15 (ji107)) (Go.bits .and .i64 a2 3)) - 1)) a0_4), (up ((Go.bits .and .i64 a2 3) == 1 && (ji107) == 1) (wrap64 ((ix4 (ix4 a0_0 a0_1 a0_2 a0_3 (ji107)) (ix4 a0_4 a0_5 a0_6 a0_7 (ji107)) (ix4 a0_8 a0_9 a0_10 a0_11 (ji107)) (ix4 a0_12 a0_13 a0_14 a0_15 (ji107)) (Go.bits .and .i64 a2 3)) - 1)) a0_5), (up ((Go.bits .and .i64 a2 3) == 1 && (ji107) == 2) (wrap64 ((ix4 (ix4 a0_0 a0_1 a0_2 a0_3 (ji107)) (ix4 a0_4 a0_5 a0_6 a0_7 (ji107)) (ix4 a0_8 a0_9 a0_10 a0_11 (ji107)) (ix4 a0_12 a0_13 a0_14 a0_15 (ji107)) (Go.bits .and .i64 a2 3)) - 1)) a0_6), (up ((Go.bits .and .i64 a2 3) == 1 && (ji107) == 3) (wrap64 ((ix4 (ix4 a0_0 a0_1 a0_2 a0_3 (ji107)) (ix4 a0_4 a0_5 a0_6 a0_7 (ji107)) (ix4 a0_8 a0_9 a0_10 a0_11 (ji107)) (ix4 a0_12 a0_13 a0_14 a0_15 (ji107)) (Go.bits .and .i64 a2 3)) - 1)) a0_7), (up ((Go.bits .and .i64 a2 3) == 2 && (ji107) == 0) (wrap64 ((ix4 (ix4 a0_0 a0_1 a0_2 a0_3 (ji107)) (ix4 a0_4 a0_5 a0_6 a0_7 (ji107)) (ix4 a0_8 a0_9 a0_10 a0_11 (ji107)) (ix4 a0_12 a0_13 a0_14 a0_15 (ji107)) (Go.bits .and .i64 a2 3)) - 1)) a0_8), (up ((Go.bits .and .i64 a2 3) == 2 && (ji107) == 1) (wrap64 ((ix4 (ix4 a0_0 a0_1 a0_2 a0_3 (ji107)) (ix4 a0_4 a0_5 a0_6 a0_7 (ji107)) (ix4 a0_8 a0_9 a0_10 a0_11 (ji107)) (ix4 a0_12 a0_13 a0_14 a0_15 (ji107)) (Go.bits .and .i64 a2 3)) - 1)) a0_9), (up ((Go.bits .and .i64 a2 3) == 2 && (ji107) == 2) (wrap64 ((ix4 (ix4 a0_0 a0_1 a0_2 a0_3 (ji107)) (ix4 a0_4 a0_5 a0_6 a0_7 (ji107)) (ix4 a0_8 a0_9 a0_10 a0_11 (ji107)) (ix4 a0_12 a0_13 a0_14 a0_15 (ji107)) (Go.bits .and .i64 a2 3)) - 1)) a0_10), (up ((Go.bits .and .i64 a2 3) == 2 && (ji107) == 3) (wrap64 ((ix4 (ix4 a0_0 a0_1 a0_2 a0_3 (ji107)) (ix4 a0_4 a0_5 a0_6 a0_7 (ji107)) (ix4 a0_8 a0_9 a0_10 a0_11 (ji107)) (ix4 a0_12 a0_13 a0_14 a0_15 (ji107)) (Go.bits .and .i64 a2 3)) - 1)) a0_11), (up ((Go.bits .and .i64 a2 3) == 3 && (ji107) == 0) (wrap64 ((ix4 (ix4 a0_0 a0_1 a0_2 a0_3 (ji107)) (ix4 a0_4 a0_5 a0_6 a0_7 (ji107)) (ix4 a0_8 a0_9 a0_10 a0_11 (ji107)) (ix4 a0_12 a0_13 a0_14 a0_15 (ji107)) (Go.bits .and .i64 a2 3)) - 1)) a0_12), (up ((Go.bits .and .i64 a2 3) == 3 && (ji107) == 1) (wrap64 ((ix4 (ix4 a0_0 a0_1 a0_2 a0_3 (ji107)) (ix4 a0_4 a0_5 a0_6 a0_7 (ji107)) (ix4 a0_8 a0_9 a0_10 a0_11 (ji107)) (ix4 a0_12 a0_13 a0_14 a0_15 (ji107)) (Go.bits .and .i64 a2 3)) - 1)) a0_13), (up ((Go.bits .and .i64 a2 3) == 3 && (ji107) == 2) (wrap64 ((ix4 (ix4 a0_0 a0_1 a0_2 a0_3 (ji107)) (ix4 a0_4 a0_5 a0_6 a0_7 (ji107)) (ix4 a0_8 a0_9 a0_10 a0_11 (ji107)) (ix4 a0_12 a0_13 a0_14 a0_15 (ji107)) (Go.bits .and .i64 a2 3)) - 1)) a0_14), (up ((Go.bits .and .i64 a2 3) == 3 && (ji107) == 3) (wrap64 ((ix4 (ix4 a0_0 a0_1 a0_2 a0_3 (ji107)) (ix4 a0_4 a0_5 a0_6 a0_7 (ji107)) (ix4 a0_8 a0_9 a0_10 a0_11 (ji107)) (ix4 a0_12 a0_13 a0_14 a0_15 (ji107)) (Go.bits .and .i64 a2 3)) - 1)) a0_15), H', ⟨by have := HJ8.out; have := HK2.out; have := HK3.out; first | omega | exact Nat.le_refl _⟩, ⟨by (with_reducible repeat (first | apply Kd.S_alloc | apply Kd.S_drewN | apply Kd.S_drew)); exact Kd.S_mono (Kd.S_far (p := ⟨gb216, (Go.bits .and .i64 a2 3).toNat * 4 + (ji107).toNat, none⟩) (Kd.S_types HO_7.out BK216.out (by decide)) (fun _ hk => hk.2) (.int .i64 (wrap64 ((ix4 (ix4 a0_0 a0_1 a0_2 a0_3 (ji107)) (ix4 a0_4 a0_5 a0_6 a0_7 (ji107)) (ix4 a0_8 a0_9 a0_10 a0_11 (ji107)) (ix4 a0_12 a0_13 a0_14 a0_15 (ji107)) (Go.bits .and .i64 a2 3)) - 1)))) (fun _ hk => trivial)⟩, ⟨by (with_reducible repeat (first | refine blk_drewN ?_ _ | refine blk_drew ?_ | refine blk_alloc ?_ _)); refine blk_far ?_ NB204_216.out _; (with_reducible repeat (first | refine blk_drewN ?_ _ | refine blk_drew ?_ | refine blk_alloc ?_ _)); exact BK204.out⟩, ⟨by (with_reducible repeat (first | refine blk_drewN ?_ _ | refine blk_drew ?_ | refine blk_alloc ?_ _)); refine blk_far ?_ NB211_216.out _; (with_reducible repeat (first | refine blk_drewN ?_ _ | refine blk_drew ?_ | refine blk_alloc ?_ _)); exact BK211.out⟩, ⟨by (with_reducible repeat (first | refine blk_drewN ?_ _ | refine blk_drew ?_ | refine blk_alloc ?_ _)); refine blk_put (cs := #[.int .i64 a0_0, .int .i64 a0_1, .int .i64 a0_2, .int .i64 a0_3, .int .i64 a0_4, .int .i64 a0_5, .int .i64 a0_6, .int .i64 a0_7, .int .i64 a0_8, .int .i64 a0_9, .int .i64 a0_10, .int .i64 a0_11, .int .i64 a0_12, .int .i64 a0_13, .int .i64 a0_14, .int .i64 a0_15]) ?_ ((Go.bits .and .i64 a2 3).toNat * 4 + (ji107).toNat) _ (up_44 (Value.int .i64) _ _ _ _ _ _ _ _ _ _ _ _ _ _ _ _ (Go.bits .and .i64 a2 3) (ji107) (wrap64 ((ix4 (ix4 a0_0 a0_1 a0_2 a0_3 (ji107)) (ix4 a0_4 a0_5 a0_6 a0_7 (ji107)) (ix4 a0_8 a0_9 a0_10 a0_11 (ji107)) (ix4 a0_12 a0_13 a0_14 a0_15 (ji107)) (Go.bits .and .i64 a2 3)) - 1)) (of_decide_eq_true (by first | (with_reducible assumption) | assumption)) (of_decide_eq_true (by first | (with_reducible assumption) | assumption)) (of_decide_eq_true (by first | (with_reducible assumption) | assumption)) (of_decide_eq_true (by first | (with_reducible assumption) | assumption))); (with_reducible repeat (first | refine blk_drewN ?_ _ | refine blk_drew ?_ | refine blk_alloc ?_ _)); exact BK216.out⟩, ⟨by repeat (first | (with_reducible first | exact HB.out | apply below_alloc | apply pw_below_drewN | apply below_drew1 | refine below_set ?_ GE204.out | refine below_set ?_ GE211.out | refine below_set ?_ GE216.out) | exact HB.out)⟩⟩
        ·rw [if_neg c121] at H
         have c121b0 : decide (1 < (ix4 (ix4 a0_0 a0_1 a0_2 a0_3 (ji107)) (ix4 a0_4 a0_5 a0_6 a0_7 (ji107)) (ix4 a0_8 a0_9 a0_10 a0_11 (ji107)) (ix4 a0_12 a0_13 a0_14 a0_15 (ji107)) (Go.bits .and .i64 a2 3))) = false := decide_eq_false c121
         clear c121
         (first | rw [c121b0] | (simp only [i64_w, i32_w]; rw [c121b0]) | skip)
         focus
          have H' := Aside0.mk H
          clear H
          go_wp2
          go_meet
          case rel => exact ⟨_, (a0_0), (a0_1), (a0_2), (a0_3), (a0_4), (a0_5), (a0_6), (a0_7), (a0_8), (a0_9), (a0_10), (a0_11), (a0_12), (a0_13), (a0_14), (a0_15), H', ⟨by have := HJ8.out; have := HK2.out; have := HK3.out; first | omega | exact Nat.le_refl _⟩, ⟨by (with_reducible repeat (first | apply Kd.S_alloc | apply Kd.S_drewN | apply Kd.S_drew)); exact HO_7.out⟩, ⟨by (with_reducible repeat (first | refine blk_drewN ?_ _ | refine blk_drew ?_ | refine blk_alloc ?_ _)); exact BK204.out⟩, ⟨by (with_reducible repeat (first | refine blk_drewN ?_ _ | refine blk_drew ?_ | refine blk_alloc ?_ _)); exact BK211.out⟩, ⟨by (with_reducible repeat (first | refine blk_drewN ?_ _ | refine blk_drew ?_ | refine blk_alloc ?_ _)); exact BK216.out⟩, ⟨by repeat (first | (with_reducible first | exact HB.out | apply below_alloc | apply pw_below_drewN | apply below_drew1 | refine below_set ?_ GE204.out | refine below_set ?_ GE211.out | refine below_set ?_ GE216.out) | exact HB.out)⟩⟩
       case rest =>
        clear HC110
        try clear c1
        try clear p1
        try clear q1
        try clear hx1
        try clear c2
        try clear p2
        try clear c6
        try clear p6
        try clear c7
        try clear c10
        try clear p10
        try clear q10
        try clear hx10
        try clear c11
        try clear p11
        try clear q11
        try clear c12
        try clear p12
        try clear q12
        try clear hx12
        try clear c28
        try clear c28b0
        try clear c29
        try clear c29b0
        try clear c63
        try clear c64
        try clear p64
        try clear c69
        try clear c69b0
        try clear c71
        try clear c72
        try clear c74
        try clear c75
        try clear p102
        try clear q102
        try clear hx103
        try clear c105
        try clear c105b0
        try clear c106
        try clear c106b0
        try clear c108
        try clear c108b0
        try clear c109
        try clear c109b0
        try clear c111
        try clear c114
        try clear c115
        try clear p118
        try clear q118
        try clear p119
        try clear q119
        try clear hx120
        try clear c121
        try clear c121b0
        try clear p123
        try clear q123
        try clear p124
        try clear q124
        try clear p126
        try clear q126
        try clear p127
        try clear q127
        try clear hcz112_0
        try clear hcz112_1
        try clear hcz112_10
        try clear hcz112_11
        try clear hcz112_12
        try clear hcz112_13
        try clear hcz112_14
        try clear hcz112_15
        try clear hcz112_2
        try clear hcz112_3
        try clear hcz112_4
        try clear hcz112_5
        try clear hcz112_6
        try clear hcz112_7
        try clear hcz112_8
        try clear hcz112_9
        try clear hcz116_0
        try clear hcz116_1
        try clear hcz116_10
        try clear hcz116_11
        try clear hcz116_12
        try clear hcz116_13
        try clear hcz116_14
        try clear hcz116_15
        try clear hcz116_2
        try clear hcz116_3
        try clear hcz116_4
        try clear hcz116_5
        try clear hcz116_6
        try clear hcz116_7
        try clear hcz116_8
        try clear hcz116_9
        try clear hfz112_0
        try clear hfz116_0
        try clear hx103_0
        try clear hx120_0
        try clear p102
        try clear p118
        try clear p119
        try clear p123
        try clear p124
        try clear p126
        try clear p127
        try clear q102
        try clear q118
        try clear q119
        try clear q123
        try clear q124
        try clear q126
        try clear q127
        obtain ⟨kq, x217000_109, x217001_109, x217002_109, x217003_109, x217004_109, x217005_109, x217006_109, x217007_109, x217008_109, x217009_109, x217010_109, x217011_109, x217012_109, x217013_109, x217014_109, x217015_109, HA, HJ109, HO_7, BK204, BK211, BK216, HB⟩ := hcut
        rename_i y1_ y2_ y3_ y4_ y5_ y6_ y7_ y8_ y9_ y10_ y11_ y12_ y13_ y14_ y15_ y16_ y17_ y18_ y19_ y20_ y21_ y22_ y23_ y24_ y25_ y26_ y27_ y28_ y29_ y30_ y31_ y32_ y33_ y34_ y35_ y36_ y37_ y38_ y39_ y40_ y41_ y42_ y43_ y44_ y45_ y46_ y47_ y48_ y49_ y50_ y51_ y52_ y53_ y54_ y55_ y56_ y57_ y58_ y59_ y60_ y61_ y62_ y63_ y64_ y65_ y66_ y67_ y68_ y69_ y70_ y71_ y72_ y73_ y74_ y75_ y76_ y77_ y78_ y79_ y80_ y81_ y82_ y83_ y84_ y85_ y86_ y87_ y88_ y89_ y90_ y91_ y92_ y93_ y94_ y95_ y96_ y97_ y98_ y99_ y100_ y101_ y102_ y103_ y104_ y105_ y106_ y107_ y108_ y109_ y110_ y111_ y112_ y113_ y114_ y115_ y116_ y117_ y118_ y119_ y120_ y121_ y122_ y123_ y124_ y125_ y126_ y127_ y128_ y129_ y130_ y131_ y132_ y133_ y134_ y135_ y136_ y137_ y138_ y139_ y140_ y141_ y142_ y143_ y144_ y145_ y146_ y147_ y148_ y149_ y150_ y151_ y152_ y153_ y154_ y155_ y156_ y157_ y158_ y159_ y160_ y161_ y162_ y163_ y164_ y165_ y166_ y167_ y168_ y169_ y170_ y171_ y172_ y173_ y174_ y175_ y176_ y177_ y178_ y179_ y180_ y181_ y182_ y183_ y184_ y185_ y186_ y187_ y188_ y189_ y190_ y191_ y192_ y193_ y194_ y195_ y196_
        exact watchwordlaw21_PathsTriangle.rest k a0_0 a0_1 a0_2 a0_3 a0_4 a0_5 a0_6 a0_7 a0_8 a0_9 a0_10 a0_11 a0_12 a0_13 a0_14 a0_15 a1 a2 r w hu23 hu44 HT A4 t206 t209 A6 t210 A7 gb204 w10 GW204 GE204 w11 w13 z2_ z3_ nd y1_ y2_ y3_ y4_ y5_ y6_ y7_ y8_ y9_ y10_ y11_ y12_ y13_ y14_ y15_ y16_ y17_ y18_ y19_ y20_ z4_ z5_ z6_ z7_ z8_ z9_ z10_ z11_ z12_ z13_ z14_ z15_ z16_ z17_ z18_ z19_ z20_ z21_ z22_ z23_ z24_ z25_ z26_ z27_ z28_ z29_ z30_ z31_ z32_ z33_ z34_ z35_ z36_ z37_ z38_ z39_ z40_ z41_ z42_ z43_ z44_ z45_ z46_ z47_ z48_ z49_ z50_ z51_ z52_ z53_ z54_ z55_ z56_ z57_ z58_ z59_ z60_ z61_ z62_ z63_ z64_ z65_ z66_ z67_ z68_ z69_ z70_ z71_ z72_ z73_ z74_ z75_ z76_ z77_ z78_ z79_ z80_ z81_ z82_ z83_ z84_ z85_ z86_ z87_ z88_ z89_ z90_ y21_ y22_ y23_ y24_ y25_ y26_ y27_ y28_ y29_ y30_ y31_ y32_ y33_ y34_ y35_ y36_ y37_ y38_ y39_ y40_ y41_ y42_ y43_ y44_ y45_ y46_ y47_ y48_ y49_ y50_ y51_ y52_ y53_ y54_ y55_ y56_ y57_ y58_ y59_ y60_ y61_ y62_ y63_ y64_ y65_ y66_ y67_ y68_ y69_ y70_ y71_ y72_ y73_ y74_ y75_ y76_ y77_ y78_ y79_ y80_ y81_ y82_ y83_ y84_ y85_ y86_ y87_ y88_ y89_ y90_ y91_ y92_ y93_ y94_ y95_ y96_ y97_ y98_ y99_ y100_ kj8 HJ8 gb211 w16 z91_ z92_ z93_ GW211 GE211 NB204_211 NB211_204 z94_ z95_ z96_ y101_ y102_ y103_ y104_ y105_ y106_ y107_ y108_ y109_ y110_ y111_ y112_ y113_ y114_ y115_ y116_ y117_ y118_ y119_ y120_ y121_ y122_ y123_ y124_ y125_ y126_ y127_ y128_ y129_ y130_ y131_ z97_ z98_ x10_2 x212000_2 x212001_2 x212002_2 x212003_2 x212004_2 z99_ z100_ z101_ k2 z102_ HK2 Ao27 co27 HO208 z103_ z104_ z105_ z106_ z107_ z108_ wr u6 u12 u13 y132_ y133_ y134_ y135_ y136_ y137_ y138_ y139_ y140_ y141_ y142_ y143_ y144_ y145_ y146_ y147_ y148_ y149_ y150_ y151_ y152_ y153_ y154_ y155_ y156_ y157_ y158_ y159_ y160_ y161_ y162_ y163_ y164_ y165_ y166_ y167_ y168_ y169_ y170_ y171_ y172_ y173_ y174_ y175_ y176_ y177_ y178_ y179_ y180_ y181_ y182_ y183_ y184_ y185_ y186_ y187_ z110_ z111_ z112_ x11_3 k3 z113_ HK3 ji107 hji107 hnb111 hnc111 y188_ y189_ gb216 w113 GW216 GE216 NB204_216 NB216_204 NB211_216 NB216_211 hnb114 hnc114 hnb115 hnc115 w117 y190_ y191_ y192_ y193_ y194_ y195_ y196_ wc u20 u21 u22 u23 u24 u25 u26 u27 u28 u29 u30 u31 u32 u33 u34 u35 u36 u37 u38 u39 u40 u41 u42 u43 u44 u45 u46 u47 u48 u49 u50 u51 u52 u53 u54 u55 u56 u57 u58 u59 u60 u61 u62 u63 u64 u65 u66 u67 u68 u69 u70 u71 u72 u73 u74 u75 u76 u77 u78 u79 u80 u81 u82 u83 u84 u85 u86 u87 u88 u89 u90 u91 u92 u93 u94 u95 u96 u97 u98 u99 u100 u101 u102 u103 u104 u105 u106 u107 u108 u109 u110 u111 u112 u113 u114 u115 u116 u117 u118 u119 u120 u121 u122 u123 u124 u125 u126 u127 u128 u129 u130 u131 u132 u133 u134 u135 u136 u137 u138 u139 u140 u141 u142 u143 u144 u145 u146 u147 u148 u149 u150 u151 u152 u153 u154 u155 u156 u157 u158 u159 u160 u161 u162 u163 u164 u165 u166 u167 u168 u169 u170 u171 u172 u173 u174 u175 u176 u177 u178 u179 u180 u181 u182 u183 u184 u185 u186 u187 u188 u189 u190 u191 u192 u193 u194 u195 u196 u197 u198 u199 u200 u201 u202 u203 u204 u205 u206 kq x217000_109 x217001_109 x217002_109 x217003_109 x217004_109 x217005_109 x217006_109 x217007_109 x217008_109 x217009_109 x217010_109 x217011_109 x217012_109 x217013_109 x217014_109 x217015_109 HA HJ109 HO_7 BK204 BK211 BK216 HB
      ·rw [if_neg c109] at H
       exact absurd H (by simp)
     ·rw [if_neg c108] at H
      exact absurd H (by simp)
    ·rw [if_neg c106] at H
     exact absurd H (by simp)
   ·rw [if_neg c105] at H
    exact absurd H (by simp)
end Go.Proofs.Ytjbejbehbjhecaa.Q21n
