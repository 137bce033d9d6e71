/- A part of the proofs of the laws of cleanselaw26: contracts of functions that the law reaches, and facts about what they compute. -/
import Derived.Test.YtabonjploobnnaaGreatDoorB
import Derived.Test.YtabonjploobnnaaGreatDoorProg
import Derived.Laws.CopyRow
import Derived.Laws.StructEq
import Derived.Laws.Pointers
import Derived.ChangeKeysEq
import Derived.Tactics
import Derived.Tactics2
import Derived.Defers
import Derived.Laws.LoneSync
import Derived.Laws.NewBlocks
import Derived.RegionTactic
import Derived.RegionCalls
import Derived.ChangeAlike
import Derived.Shelf.Strconv.Itoa3
import Derived.Shelf.GgClosure.Gives
import Derived.Ground.SlsfProg
import Derived.Ground.NamesProg
import Derived.Ground.SlmcProg
import Derived.Shelf.SlLaysF
import Derived.Shelf.SlMaps.Clone
set_option linter.unusedVariables false
set_option linter.unusedSimpArgs false
set_option linter.unusedSectionVars false
namespace Lg
open Go Go.Proofs Go.Proofs.Tryz
theorem ty126 : TyOf Tryz.prog 126 rV := ⟨fun w => Tryz.isAgg126 w, fun w => Tryz.sizeOf126 w⟩
theorem zr126 : ∀ h, (rV.ty (Value.map none)).p h (Value.map none) := fun _ => ⟨rfl, rfl⟩
theorem ty3 : TyOf Tryz.prog 3 rInt := ⟨fun w => Tryz.isAgg3 w, fun w => Tryz.sizeOf3 w⟩
theorem zr3 : ∀ h, (rInt.ty 0).p h (Value.int .i64 0) := fun _ => rfl
theorem el3 : ElT Tryz.prog 3 rInt 8 0 := ⟨ty3, by decide, Tryz.t3, (Value.int .i64 0), by kernel_rfl, by kernel_rfl, by kernel_rfl, by kernel_rfl, zr3⟩
theorem ty4 : TyOf Tryz.prog 4 rBool := ⟨fun w => Tryz.isAgg4 w, fun w => Tryz.sizeOf4 w⟩
theorem zr4 : ∀ h, (rBool.ty false).p h (Value.bool false) := fun _ => rfl
theorem ty5 : TyOf Tryz.prog 5 rU8 := ⟨fun w => Tryz.isAgg5 w, fun w => Tryz.sizeOf5 w⟩
theorem zr5 : ∀ h, (rU8.ty 0).p h (Value.int .u8 0) := fun _ => rfl
theorem el5 : ElT Tryz.prog 5 rU8 1 0 := ⟨ty5, by decide, Tryz.t5, (Value.int .u8 0), by kernel_rfl, by kernel_rfl, by kernel_rfl, by kernel_rfl, zr5⟩
theorem ty9 : TyOf Tryz.prog 9 rStr := ⟨fun w => Tryz.isAgg9 w, fun w => Tryz.sizeOf9 w⟩
theorem zr9 : ∀ h, (rStr.ty ⟨#[]⟩).p h (Value.string ⟨#[]⟩) := fun _ => rfl
theorem el9 : ElT Tryz.prog 9 rStr 16 ⟨#[]⟩ := ⟨ty9, by decide, Tryz.t9, (Value.string ⟨#[]⟩), by kernel_rfl, by kernel_rfl, by kernel_rfl, by kernel_rfl, zr9⟩
theorem ty33 : TyOf Tryz.prog 33 (rSl rInt) := ⟨fun w => Tryz.isAgg33 w, fun w => Tryz.sizeOf33 w⟩
theorem ty33V : TyOf Tryz.prog 33 rV := ⟨fun w => Tryz.isAgg33 w, fun w => Tryz.sizeOf33 w⟩
theorem zr33 : ∀ h, ((rSl rInt).ty []).p h (Value.slice none 0 0) := fun _ => ⟨none, ⟨0, Nat.le_refl _⟩, rfl, fun q => absurd rfl q⟩
theorem el33 : ElT Tryz.prog 33 (rSl rInt) 24 [] := ⟨ty33, by decide, Tryz.t33, (Value.slice none 0 0), by kernel_rfl, by kernel_rfl, by kernel_rfl, by kernel_rfl, zr33⟩
structure GValue where
  Kind : Int
  N : Int
  Text : ByteArray
def zValue : GValue := { Kind := 0, N := 0, Text := ⟨#[]⟩ }
instance : Inhabited GValue := ⟨zValue⟩
def fsValue : List (SF GValue) := [⟨Int, 3, rInt, GValue.Kind⟩, ⟨Int, 3, rInt, GValue.N⟩, ⟨ByteArray, 9, rStr, GValue.Text⟩]
abbrev rValue : Rp GValue := rStruct fsValue
theorem ty91 : TyOf Tryz.prog 91 rValue := ⟨fun w => Tryz.isAgg91 w, fun w => Tryz.sizeOf91 w⟩
theorem so91 : StructOf Tryz.prog 91 fsValue := ⟨⟨_, Tryz.underlying91, ⟨rfl, rfl, ty3, by decide, ⟨rfl, rfl, ty3, by decide, ⟨rfl, rfl, ty9, by decide, trivial⟩⟩⟩⟩, ty91⟩
theorem zr91 : ∀ h, (rValue.ty zValue).p h (.agg #[Value.int .i64 0, Value.int .i64 0, Value.string ⟨#[]⟩]) := fun _ => ⟨_, ⟨[Value.int .i64 0], _, rfl, rfl, ⟨[Value.int .i64 0], _, rfl, rfl, ⟨[Value.string ⟨#[]⟩], _, rfl, rfl, rfl⟩⟩⟩, rfl⟩
theorem el91 : ElT Tryz.prog 91 rValue 32 zValue := ⟨ty91, by decide, Tryz.t91, (.agg #[Value.int .i64 0, Value.int .i64 0, Value.string ⟨#[]⟩]), by kernel_rfl, by kernel_rfl, by kernel_rfl, by kernel_rfl, zr91⟩
structure GFixed where
  Col : Int
  Value : GValue
def zFixed : GFixed := { Col := 0, Value := zValue }
instance : Inhabited GFixed := ⟨zFixed⟩
def fsFixed : List (SF GFixed) := [⟨Int, 3, rInt, GFixed.Col⟩, ⟨GValue, 91, rValue, GFixed.Value⟩]
abbrev rFixed : Rp GFixed := rStruct fsFixed
theorem ty110 : TyOf Tryz.prog 110 rFixed := ⟨fun w => Tryz.isAgg110 w, fun w => Tryz.sizeOf110 w⟩
theorem so110 : StructOf Tryz.prog 110 fsFixed := ⟨⟨_, Tryz.underlying110, ⟨rfl, rfl, ty3, by decide, ⟨rfl, rfl, ty91, by decide, trivial⟩⟩⟩, ty110⟩
theorem zr110 : ∀ h, (rFixed.ty zFixed).p h (.agg #[Value.int .i64 0, Value.int .i64 0, Value.int .i64 0, Value.string ⟨#[]⟩]) := fun _ => ⟨_, ⟨[Value.int .i64 0], _, rfl, rfl, ⟨[Value.int .i64 0, Value.int .i64 0, Value.string ⟨#[]⟩], _, rfl, ⟨[Value.int .i64 0], _, rfl, rfl, ⟨[Value.int .i64 0], _, rfl, rfl, ⟨[Value.string ⟨#[]⟩], _, rfl, rfl, rfl⟩⟩⟩, rfl⟩⟩, rfl⟩
theorem ty56 : TyOf Tryz.prog 56 (rSl rFixed) := ⟨fun w => Tryz.isAgg56 w, fun w => Tryz.sizeOf56 w⟩
structure GSide where
  Var : Int
  Col : Int
  Value : GValue
def zSide : GSide := { Var := 0, Col := 0, Value := zValue }
instance : Inhabited GSide := ⟨zSide⟩
def fsSide : List (SF GSide) := [⟨Int, 3, rInt, GSide.Var⟩, ⟨Int, 3, rInt, GSide.Col⟩, ⟨GValue, 91, rValue, GSide.Value⟩]
abbrev rSide : Rp GSide := rStruct fsSide
theorem ty105 : TyOf Tryz.prog 105 rSide := ⟨fun w => Tryz.isAgg105 w, fun w => Tryz.sizeOf105 w⟩
theorem so105 : StructOf Tryz.prog 105 fsSide := ⟨⟨_, Tryz.underlying105, ⟨rfl, rfl, ty3, by decide, ⟨rfl, rfl, ty3, by decide, ⟨rfl, rfl, ty91, by decide, trivial⟩⟩⟩⟩, ty105⟩
structure GTest where
  Left : GSide
  Op : Int
  Right : GSide
  Add : Int
def zTest : GTest := { Left := zSide, Op := 0, Right := zSide, Add := 0 }
instance : Inhabited GTest := ⟨zTest⟩
def fsTest : List (SF GTest) := [⟨GSide, 105, rSide, GTest.Left⟩, ⟨Int, 3, rInt, GTest.Op⟩, ⟨GSide, 105, rSide, GTest.Right⟩, ⟨Int, 3, rInt, GTest.Add⟩]
abbrev rTest : Rp GTest := rStruct fsTest
theorem ty107 : TyOf Tryz.prog 107 rTest := ⟨fun w => Tryz.isAgg107 w, fun w => Tryz.sizeOf107 w⟩
theorem so107 : StructOf Tryz.prog 107 fsTest := ⟨⟨_, Tryz.underlying107, ⟨rfl, rfl, ty105, by decide, ⟨rfl, rfl, ty3, by decide, ⟨rfl, rfl, ty105, by decide, ⟨rfl, rfl, ty3, by decide, trivial⟩⟩⟩⟩⟩, ty107⟩
theorem zr107 : ∀ h, (rTest.ty zTest).p h (.agg #[Value.int .i64 0, Value.int .i64 0, Value.int .i64 0, Value.int .i64 0, Value.string ⟨#[]⟩, Value.int .i64 0, Value.int .i64 0, Value.int .i64 0, Value.int .i64 0, Value.int .i64 0, Value.string ⟨#[]⟩, Value.int .i64 0]) := fun _ => ⟨_, ⟨[Value.int .i64 0, Value.int .i64 0, Value.int .i64 0, Value.int .i64 0, Value.string ⟨#[]⟩], _, rfl, ⟨[Value.int .i64 0], _, rfl, rfl, ⟨[Value.int .i64 0], _, rfl, rfl, ⟨[Value.int .i64 0, Value.int .i64 0, Value.string ⟨#[]⟩], _, rfl, ⟨[Value.int .i64 0], _, rfl, rfl, ⟨[Value.int .i64 0], _, rfl, rfl, ⟨[Value.string ⟨#[]⟩], _, rfl, rfl, rfl⟩⟩⟩, rfl⟩⟩⟩, ⟨[Value.int .i64 0], _, rfl, rfl, ⟨[Value.int .i64 0, Value.int .i64 0, Value.int .i64 0, Value.int .i64 0, Value.string ⟨#[]⟩], _, rfl, ⟨[Value.int .i64 0], _, rfl, rfl, ⟨[Value.int .i64 0], _, rfl, rfl, ⟨[Value.int .i64 0, Value.int .i64 0, Value.string ⟨#[]⟩], _, rfl, ⟨[Value.int .i64 0], _, rfl, rfl, ⟨[Value.int .i64 0], _, rfl, rfl, ⟨[Value.string ⟨#[]⟩], _, rfl, rfl, rfl⟩⟩⟩, rfl⟩⟩⟩, ⟨[Value.int .i64 0], _, rfl, rfl, rfl⟩⟩⟩⟩, rfl⟩
theorem el107 : ElT Tryz.prog 107 rTest 112 zTest := ⟨ty107, by decide, Tryz.t107, (.agg #[Value.int .i64 0, Value.int .i64 0, Value.int .i64 0, Value.int .i64 0, Value.string ⟨#[]⟩, Value.int .i64 0, Value.int .i64 0, Value.int .i64 0, Value.int .i64 0, Value.int .i64 0, Value.string ⟨#[]⟩, Value.int .i64 0]), by kernel_rfl, by kernel_rfl, by kernel_rfl, by kernel_rfl, zr107⟩
theorem ty57 : TyOf Tryz.prog 57 (rSl rTest) := ⟨fun w => Tryz.isAgg57 w, fun w => Tryz.sizeOf57 w⟩
structure GRule where
  Kind : Int
  Name : ByteArray
  Table : Int
  Cols : List Int
  Col : Int
  Fixed : List GFixed
  Other : Int
  OtherCol : Int
  Tables : List Int
  Tests : List GTest
def zRule : GRule := { Kind := 0, Name := ⟨#[]⟩, Table := 0, Cols := [], Col := 0, Fixed := [], Other := 0, OtherCol := 0, Tables := [], Tests := [] }
instance : Inhabited GRule := ⟨zRule⟩
def fsRule : List (SF GRule) := [⟨Int, 3, rInt, GRule.Kind⟩, ⟨ByteArray, 9, rStr, GRule.Name⟩, ⟨Int, 3, rInt, GRule.Table⟩, ⟨List Int, 33, (rSl rInt), GRule.Cols⟩, ⟨Int, 3, rInt, GRule.Col⟩, ⟨List GFixed, 56, (rSl rFixed), GRule.Fixed⟩, ⟨Int, 3, rInt, GRule.Other⟩, ⟨Int, 3, rInt, GRule.OtherCol⟩, ⟨List Int, 33, (rSl rInt), GRule.Tables⟩, ⟨List GTest, 57, (rSl rTest), GRule.Tests⟩]
abbrev rRule : Rp GRule := rStruct fsRule
theorem ty59 : TyOf Tryz.prog 59 rRule := ⟨fun w => Tryz.isAgg59 w, fun w => Tryz.sizeOf59 w⟩
theorem so59 : StructOf Tryz.prog 59 fsRule := ⟨⟨_, Tryz.underlying59, ⟨rfl, rfl, ty3, by decide, ⟨rfl, rfl, ty9, by decide, ⟨rfl, rfl, ty3, by decide, ⟨rfl, rfl, ty33, by decide, ⟨rfl, rfl, ty3, by decide, ⟨rfl, rfl, ty56, by decide, ⟨rfl, rfl, ty3, by decide, ⟨rfl, rfl, ty3, by decide, ⟨rfl, rfl, ty33, by decide, ⟨rfl, rfl, ty57, by decide, trivial⟩⟩⟩⟩⟩⟩⟩⟩⟩⟩⟩, ty59⟩
theorem zr59 : ∀ h, (rRule.ty zRule).p h (.agg #[Value.int .i64 0, Value.string ⟨#[]⟩, Value.int .i64 0, Value.slice none 0 0, Value.int .i64 0, Value.slice none 0 0, Value.int .i64 0, Value.int .i64 0, Value.slice none 0 0, Value.slice none 0 0]) := fun _ => ⟨_, ⟨[Value.int .i64 0], _, rfl, rfl, ⟨[Value.string ⟨#[]⟩], _, rfl, rfl, ⟨[Value.int .i64 0], _, rfl, rfl, ⟨[Value.slice none 0 0], _, rfl, ⟨_, rfl, none, ⟨0, Nat.le_refl _⟩, rfl, fun q => absurd rfl q⟩, ⟨[Value.int .i64 0], _, rfl, rfl, ⟨[Value.slice none 0 0], _, rfl, ⟨_, rfl, none, ⟨0, Nat.le_refl _⟩, rfl, fun q => absurd rfl q⟩, ⟨[Value.int .i64 0], _, rfl, rfl, ⟨[Value.int .i64 0], _, rfl, rfl, ⟨[Value.slice none 0 0], _, rfl, ⟨_, rfl, none, ⟨0, Nat.le_refl _⟩, rfl, fun q => absurd rfl q⟩, ⟨[Value.slice none 0 0], _, rfl, ⟨_, rfl, none, ⟨0, Nat.le_refl _⟩, rfl, fun q => absurd rfl q⟩, rfl⟩⟩⟩⟩⟩⟩⟩⟩⟩⟩, rfl⟩
theorem el59 : ElT Tryz.prog 59 rRule 152 zRule := ⟨ty59, by decide, Tryz.t59, (.agg #[Value.int .i64 0, Value.string ⟨#[]⟩, Value.int .i64 0, Value.slice none 0 0, Value.int .i64 0, Value.slice none 0 0, Value.int .i64 0, Value.int .i64 0, Value.slice none 0 0, Value.slice none 0 0]), by kernel_rfl, by kernel_rfl, by kernel_rfl, by kernel_rfl, zr59⟩
theorem ty22 : TyOf Tryz.prog 22 (rSl rRule) := ⟨fun w => Tryz.isAgg22 w, fun w => Tryz.sizeOf22 w⟩
theorem ty32 : TyOf Tryz.prog 32 (rSl rValue) := ⟨fun w => Tryz.isAgg32 w, fun w => Tryz.sizeOf32 w⟩
structure GFact where
  Table : Int
  Entity : Int
  Variant : Int
  Row : List GValue
  Cost : Int
  From : List Int
def zFact : GFact := { Table := 0, Entity := 0, Variant := 0, Row := [], Cost := 0, From := [] }
instance : Inhabited GFact := ⟨zFact⟩
def fsFact : List (SF GFact) := [⟨Int, 3, rInt, GFact.Table⟩, ⟨Int, 3, rInt, GFact.Entity⟩, ⟨Int, 3, rInt, GFact.Variant⟩, ⟨List GValue, 32, (rSl rValue), GFact.Row⟩, ⟨Int, 3, rInt, GFact.Cost⟩, ⟨List Int, 33, (rSl rInt), GFact.From⟩]
abbrev rFact : Rp GFact := rStruct fsFact
theorem ty35 : TyOf Tryz.prog 35 rFact := ⟨fun w => Tryz.isAgg35 w, fun w => Tryz.sizeOf35 w⟩
theorem so35 : StructOf Tryz.prog 35 fsFact := ⟨⟨_, Tryz.underlying35, ⟨rfl, rfl, ty3, by decide, ⟨rfl, rfl, ty3, by decide, ⟨rfl, rfl, ty3, by decide, ⟨rfl, rfl, ty32, by decide, ⟨rfl, rfl, ty3, by decide, ⟨rfl, rfl, ty33, by decide, trivial⟩⟩⟩⟩⟩⟩⟩, ty35⟩
theorem zr35 : ∀ h, (rFact.ty zFact).p h (.agg #[Value.int .i64 0, Value.int .i64 0, Value.int .i64 0, Value.slice none 0 0, Value.int .i64 0, Value.slice none 0 0]) := fun _ => ⟨_, ⟨[Value.int .i64 0], _, rfl, rfl, ⟨[Value.int .i64 0], _, rfl, rfl, ⟨[Value.int .i64 0], _, rfl, rfl, ⟨[Value.slice none 0 0], _, rfl, ⟨_, rfl, none, ⟨0, Nat.le_refl _⟩, rfl, fun q => absurd rfl q⟩, ⟨[Value.int .i64 0], _, rfl, rfl, ⟨[Value.slice none 0 0], _, rfl, ⟨_, rfl, none, ⟨0, Nat.le_refl _⟩, rfl, fun q => absurd rfl q⟩, rfl⟩⟩⟩⟩⟩⟩, rfl⟩
theorem el35 : ElT Tryz.prog 35 rFact 80 zFact := ⟨ty35, by decide, Tryz.t35, (.agg #[Value.int .i64 0, Value.int .i64 0, Value.int .i64 0, Value.slice none 0 0, Value.int .i64 0, Value.slice none 0 0]), by kernel_rfl, by kernel_rfl, by kernel_rfl, by kernel_rfl, zr35⟩
theorem ty41 : TyOf Tryz.prog 41 (rSl rFact) := ⟨fun w => Tryz.isAgg41 w, fun w => Tryz.sizeOf41 w⟩
structure GOp where
  Drop : Bool
  Number : Int
  Fact : GFact
def zOp : GOp := { Drop := false, Number := 0, Fact := zFact }
instance : Inhabited GOp := ⟨zOp⟩
def fsOp : List (SF GOp) := [⟨Bool, 4, rBool, GOp.Drop⟩, ⟨Int, 3, rInt, GOp.Number⟩, ⟨GFact, 35, rFact, GOp.Fact⟩]
abbrev rOp : Rp GOp := rStruct fsOp
theorem ty37 : TyOf Tryz.prog 37 rOp := ⟨fun w => Tryz.isAgg37 w, fun w => Tryz.sizeOf37 w⟩
theorem so37 : StructOf Tryz.prog 37 fsOp := ⟨⟨_, Tryz.underlying37, ⟨rfl, rfl, ty4, by decide, ⟨rfl, rfl, ty3, by decide, ⟨rfl, rfl, ty35, by decide, trivial⟩⟩⟩⟩, ty37⟩
theorem ty23 : TyOf Tryz.prog 23 (rSl rOp) := ⟨fun w => Tryz.isAgg23 w, fun w => Tryz.sizeOf23 w⟩
structure GTri where
  a : Int
  b : Int
  c : Int
deriving DecidableEq
def zTri : GTri := ⟨0, 0, 0⟩
def fsTri : List (SF GTri) := [⟨Int, 3, rInt, GTri.a⟩, ⟨Int, 3, rInt, GTri.b⟩, ⟨Int, 3, rInt, GTri.c⟩]
abbrev rTri : Rp GTri := rStruct fsTri
theorem ty77 : TyOf Tryz.prog 77 rTri := ⟨fun w => Tryz.isAgg77 w, fun w => Tryz.sizeOf77 w⟩
theorem zr77 : ∀ h, (rTri.ty zTri).p h (.agg #[Value.int .i64 0, Value.int .i64 0, Value.int .i64 0]) := fun _ => ⟨_, ⟨[Value.int .i64 0], _, rfl, rfl, ⟨[Value.int .i64 0], _, rfl, rfl, ⟨[Value.int .i64 0], _, rfl, rfl, rfl⟩⟩⟩, rfl⟩
theorem el77 : ElT Tryz.prog 77 rTri 24 zTri := ⟨ty77, by decide, Tryz.t77, (.agg #[Value.int .i64 0, Value.int .i64 0, Value.int .i64 0]), by kernel_rfl, by kernel_rfl, by kernel_rfl, by kernel_rfl, zr77⟩
def fsA2 : List (SF (Int × Int)) := [⟨Int, 3, rInt, Prod.fst⟩, ⟨Int, 3, rInt, Prod.snd⟩]
abbrev rA2 : Rp (Int × Int) := rStruct fsA2
theorem ty111 : TyOf Tryz.prog 111 rA2 := ⟨fun w => Tryz.isAgg111 w, fun w => Tryz.sizeOf111 w⟩
theorem zr111 : ∀ h, (rA2.ty (0, 0)).p h (.agg #[Value.int .i64 0, Value.int .i64 0]) := fun _ => ⟨_, ⟨[Value.int .i64 0], _, rfl, rfl, ⟨[Value.int .i64 0], _, rfl, rfl, rfl⟩⟩, rfl⟩
theorem el111 : ElT Tryz.prog 111 rA2 16 (0, 0) := ⟨ty111, by decide, Tryz.t111, (.agg #[Value.int .i64 0, Value.int .i64 0]), by kernel_rfl, by kernel_rfl, by kernel_rfl, by kernel_rfl, zr111⟩
theorem ty72 : TyOf Tryz.prog 72 (rSl rA2) := ⟨fun w => Tryz.isAgg72 w, fun w => Tryz.sizeOf72 w⟩
structure Gpair where
  rule : Int
  i : Int
  j : Int
  cols : List ((Int × Int))
def zpair : Gpair := { rule := 0, i := 0, j := 0, cols := [] }
instance : Inhabited Gpair := ⟨zpair⟩
def fspair : List (SF Gpair) := [⟨Int, 3, rInt, Gpair.rule⟩, ⟨Int, 3, rInt, Gpair.i⟩, ⟨Int, 3, rInt, Gpair.j⟩, ⟨List ((Int × Int)), 72, (rSl rA2), Gpair.cols⟩]
abbrev rpair : Rp Gpair := rStruct fspair
theorem ty75 : TyOf Tryz.prog 75 rpair := ⟨fun w => Tryz.isAgg75 w, fun w => Tryz.sizeOf75 w⟩
theorem so75 : StructOf Tryz.prog 75 fspair := ⟨⟨_, Tryz.underlying75, ⟨rfl, rfl, ty3, by decide, ⟨rfl, rfl, ty3, by decide, ⟨rfl, rfl, ty3, by decide, ⟨rfl, rfl, ty72, by decide, trivial⟩⟩⟩⟩⟩, ty75⟩
theorem zr75 : ∀ h, (rpair.ty zpair).p h (.agg #[Value.int .i64 0, Value.int .i64 0, Value.int .i64 0, Value.slice none 0 0]) := fun _ => ⟨_, ⟨[Value.int .i64 0], _, rfl, rfl, ⟨[Value.int .i64 0], _, rfl, rfl, ⟨[Value.int .i64 0], _, rfl, rfl, ⟨[Value.slice none 0 0], _, rfl, ⟨_, rfl, none, ⟨0, Nat.le_refl _⟩, rfl, fun q => absurd rfl q⟩, rfl⟩⟩⟩⟩, rfl⟩
theorem el75 : ElT Tryz.prog 75 rpair 48 zpair := ⟨ty75, by decide, Tryz.t75, (.agg #[Value.int .i64 0, Value.int .i64 0, Value.int .i64 0, Value.slice none 0 0]), by kernel_rfl, by kernel_rfl, by kernel_rfl, by kernel_rfl, zr75⟩
theorem ty67 : TyOf Tryz.prog 67 (rSl rpair) := ⟨fun w => Tryz.isAgg67 w, fun w => Tryz.sizeOf67 w⟩
structure Gkey where
  pair : Int
  texts : ByteArray
def zkey : Gkey := { pair := 0, texts := ⟨#[]⟩ }
instance : Inhabited Gkey := ⟨zkey⟩
def fskey : List (SF Gkey) := [⟨Int, 3, rInt, Gkey.pair⟩, ⟨ByteArray, 9, rStr, Gkey.texts⟩]
abbrev rkey : Rp Gkey := rStruct fskey
theorem ty95 : TyOf Tryz.prog 95 rkey := ⟨fun w => Tryz.isAgg95 w, fun w => Tryz.sizeOf95 w⟩
theorem so95 : StructOf Tryz.prog 95 fskey := ⟨⟨_, Tryz.underlying95, ⟨rfl, rfl, ty3, by decide, ⟨rfl, rfl, ty9, by decide, trivial⟩⟩⟩, ty95⟩
theorem ty62 : TyOf Tryz.prog 62 rV := ⟨fun w => Tryz.isAgg62 w, fun w => Tryz.sizeOf62 w⟩
theorem ty63 : TyOf Tryz.prog 63 rV := ⟨fun w => Tryz.isAgg63 w, fun w => Tryz.sizeOf63 w⟩
theorem ty64 : TyOf Tryz.prog 64 rV := ⟨fun w => Tryz.isAgg64 w, fun w => Tryz.sizeOf64 w⟩
theorem ty65 : TyOf Tryz.prog 65 rV := ⟨fun w => Tryz.isAgg65 w, fun w => Tryz.sizeOf65 w⟩
theorem ty66 : TyOf Tryz.prog 66 rV := ⟨fun w => Tryz.isAgg66 w, fun w => Tryz.sizeOf66 w⟩
structure GVigil where
  rules : List GRule
  pairs : List Gpair
  pairAt : Value
  facts : Value
  entities : Value
  index : Value
  violations : Value
  work : Int
def zVigil : GVigil := { rules := [], pairs := [], pairAt := (Value.map none), facts := (Value.map none), entities := (Value.map none), index := (Value.map none), violations := (Value.map none), work := 0 }
instance : Inhabited GVigil := ⟨zVigil⟩
def fsVigil : List (SF GVigil) := [⟨List GRule, 22, (rSl rRule), GVigil.rules⟩, ⟨List Gpair, 67, (rSl rpair), GVigil.pairs⟩, ⟨Value, 62, rV, GVigil.pairAt⟩, ⟨Value, 63, rV, GVigil.facts⟩, ⟨Value, 64, rV, GVigil.entities⟩, ⟨Value, 65, rV, GVigil.index⟩, ⟨Value, 66, rV, GVigil.violations⟩, ⟨Int, 3, rInt, GVigil.work⟩]
abbrev rVigil : Rp GVigil := rStruct fsVigil
theorem ty69 : TyOf Tryz.prog 69 rVigil := ⟨fun w => Tryz.isAgg69 w, fun w => Tryz.sizeOf69 w⟩
theorem so69 : StructOf Tryz.prog 69 fsVigil := ⟨⟨_, Tryz.underlying69, ⟨rfl, rfl, ty22, by decide, ⟨rfl, rfl, ty67, by decide, ⟨rfl, rfl, ty62, by decide, ⟨rfl, rfl, ty63, by decide, ⟨rfl, rfl, ty64, by decide, ⟨rfl, rfl, ty65, by decide, ⟨rfl, rfl, ty66, by decide, ⟨rfl, rfl, ty3, by decide, trivial⟩⟩⟩⟩⟩⟩⟩⟩⟩, ty69⟩
structure GRVigil where
  Rules : List GRule
  Numbers : List Int
  Facts : List GFact
  Count : Int
def zRVigil : GRVigil := { Rules := [], Numbers := [], Facts := [], Count := 0 }
instance : Inhabited GRVigil := ⟨zRVigil⟩
def fsRVigil : List (SF GRVigil) := [⟨List GRule, 22, (rSl rRule), GRVigil.Rules⟩, ⟨List Int, 33, (rSl rInt), GRVigil.Numbers⟩, ⟨List GFact, 41, (rSl rFact), GRVigil.Facts⟩, ⟨Int, 3, rInt, GRVigil.Count⟩]
abbrev rRVigil : Rp GRVigil := rStruct fsRVigil
theorem ty43 : TyOf Tryz.prog 43 rRVigil := ⟨fun w => Tryz.isAgg43 w, fun w => Tryz.sizeOf43 w⟩
theorem so43 : StructOf Tryz.prog 43 fsRVigil := ⟨⟨_, Tryz.underlying43, ⟨rfl, rfl, ty22, by decide, ⟨rfl, rfl, ty33, by decide, ⟨rfl, rfl, ty41, by decide, ⟨rfl, rfl, ty3, by decide, trivial⟩⟩⟩⟩⟩, ty43⟩
theorem ty24 : TyOf Tryz.prog 24 rV := ⟨fun w => Tryz.isAgg24 w, fun w => Tryz.sizeOf24 w⟩
theorem ty147 : TyOf Tryz.prog 147 rV := ⟨fun w => Tryz.isAgg147 w, fun w => Tryz.sizeOf147 w⟩
structure Gcomparison where
  op : Int
  holds : Value
def zcomparison : Gcomparison := { op := 0, holds := Value.nilFunc }
instance : Inhabited Gcomparison := ⟨zcomparison⟩
def fscomparison : List (SF Gcomparison) := [⟨Int, 3, rInt, Gcomparison.op⟩, ⟨Value, 147, rV, Gcomparison.holds⟩]
abbrev rcomparison : Rp Gcomparison := rStruct fscomparison
theorem ty182 : TyOf Tryz.prog 182 rcomparison := ⟨fun w => Tryz.isAgg182 w, fun w => Tryz.sizeOf182 w⟩
theorem so182 : StructOf Tryz.prog 182 fscomparison := ⟨⟨_, Tryz.underlying182, ⟨rfl, rfl, ty3, by decide, ⟨rfl, rfl, ty147, by decide, trivial⟩⟩⟩, ty182⟩
theorem zr182 : ∀ h, (rcomparison.ty zcomparison).p h (.agg #[Value.int .i64 0, Value.nilFunc]) := fun _ => ⟨_, ⟨[Value.int .i64 0], _, rfl, rfl, ⟨[Value.nilFunc], _, rfl, ⟨rfl, rfl⟩, rfl⟩⟩, rfl⟩
theorem el182 : ElT Tryz.prog 182 rcomparison 16 zcomparison := ⟨ty182, by decide, Tryz.t182, (.agg #[Value.int .i64 0, Value.nilFunc]), by kernel_rfl, by kernel_rfl, by kernel_rfl, by kernel_rfl, zr182⟩
theorem ty149V : TyOf Tryz.prog 149 rV := ⟨fun w => Tryz.isAgg149 w, fun w => Tryz.sizeOf149 w⟩
abbrev rPt : Rp Nat := rT (fun b => tAt b 0) (by rintro h x v rfl; rfl)
theorem ty26 : TyOf Tryz.prog 26 rPt := ⟨fun w => Tryz.isAgg26 w, fun w => Tryz.sizeOf26 w⟩
structure GVigilW where
  rules : Value
  pairs : Value
  pairAt : Value
  facts : Value
  entities : Value
  index : Value
  violations : Value
  work : Int
def zVigilW : GVigilW := { rules := Value.slice none 0 0, pairs := Value.slice none 0 0, pairAt := (Value.map none), facts := (Value.map none), entities := (Value.map none), index := (Value.map none), violations := (Value.map none), work := 0 }
def fsVigilW : List (SF GVigilW) := [⟨Value, 22, rV, GVigilW.rules⟩, ⟨Value, 67, rV, GVigilW.pairs⟩, ⟨Value, 62, rV, GVigilW.pairAt⟩, ⟨Value, 63, rV, GVigilW.facts⟩, ⟨Value, 64, rV, GVigilW.entities⟩, ⟨Value, 65, rV, GVigilW.index⟩, ⟨Value, 66, rV, GVigilW.violations⟩, ⟨Int, 3, rInt, GVigilW.work⟩]
abbrev rVigilW : Rp GVigilW := rStruct fsVigilW
theorem ty22V69 : TyOf Tryz.prog 22 rV := ⟨fun w => Tryz.isAgg22 w, fun w => Tryz.sizeOf22 w⟩
theorem ty67V69 : TyOf Tryz.prog 67 rV := ⟨fun w => Tryz.isAgg67 w, fun w => Tryz.sizeOf67 w⟩
theorem ty69W : TyOf Tryz.prog 69 rVigilW := ⟨fun w => Tryz.isAgg69 w, fun w => Tryz.sizeOf69 w⟩
theorem so69W : StructOf Tryz.prog 69 fsVigilW := ⟨⟨_, Tryz.underlying69, ⟨rfl, rfl, ty22V69, by decide, ⟨rfl, rfl, ty67V69, by decide, ⟨rfl, rfl, ty62, by decide, ⟨rfl, rfl, ty63, by decide, ⟨rfl, rfl, ty64, by decide, ⟨rfl, rfl, ty65, by decide, ⟨rfl, rfl, ty66, by decide, ⟨rfl, rfl, ty3, by decide, trivial⟩⟩⟩⟩⟩⟩⟩⟩⟩, ty69W⟩
def GVigilW.up (x : GVigilW) (arules : List GRule) (apairs : List Gpair) : GVigil := { rules := arules, pairs := apairs, pairAt := x.pairAt, facts := x.facts, entities := x.entities, index := x.index, violations := x.violations, work := x.work }
theorem up69W {h h' : PH} {x : GVigilW} (arules : List GRule) (apairs : List Gpair) {cs : List Value} (l : h.le h') (vrules : (tSl rRule arules).p h' x.rules) (vpairs : (tSl rpair apairs).p h' x.pairs) (r : SF.rel h x fsVigilW cs) : SF.rel h' (x.up arules apairs) fsVigil cs := by
  obtain ⟨c0, _, rfl, r0, c1, _, rfl, r1, c2, _, rfl, r2, c3, _, rfl, r3, c4, _, rfl, r4, c5, _, rfl, r5, c6, _, rfl, r6, c7, _, rfl, r7, rz⟩ := r
  exact ⟨c0, _, rfl, ⟨_, r0.1, vrules⟩, ⟨c1, _, rfl, ⟨_, r1.1, vpairs⟩, ⟨c2, _, rfl, (rV).mono l r2, ⟨c3, _, rfl, (rV).mono l r3, ⟨c4, _, rfl, (rV).mono l r4, ⟨c5, _, rfl, (rV).mono l r5, ⟨c6, _, rfl, (rV).mono l r6, ⟨c7, _, rfl, (rInt).mono l r7, rz⟩⟩⟩⟩⟩⟩⟩⟩
structure GRuleW where
  Kind : Int
  Name : ByteArray
  Table : Int
  Cols : List Int
  Col : Int
  Fixed : List GFixed
  Other : Int
  OtherCol : Int
  Tables : List Int
  Tests : Value
def zRuleW : GRuleW := { Kind := 0, Name := ⟨#[]⟩, Table := 0, Cols := [], Col := 0, Fixed := [], Other := 0, OtherCol := 0, Tables := [], Tests := Value.slice none 0 0 }
def fsRuleW : List (SF GRuleW) := [⟨Int, 3, rInt, GRuleW.Kind⟩, ⟨ByteArray, 9, rStr, GRuleW.Name⟩, ⟨Int, 3, rInt, GRuleW.Table⟩, ⟨List Int, 33, (rSl rInt), GRuleW.Cols⟩, ⟨Int, 3, rInt, GRuleW.Col⟩, ⟨List GFixed, 56, (rSl rFixed), GRuleW.Fixed⟩, ⟨Int, 3, rInt, GRuleW.Other⟩, ⟨Int, 3, rInt, GRuleW.OtherCol⟩, ⟨List Int, 33, (rSl rInt), GRuleW.Tables⟩, ⟨Value, 57, rV, GRuleW.Tests⟩]
abbrev rRuleW : Rp GRuleW := rStruct fsRuleW
theorem ty57V59 : TyOf Tryz.prog 57 rV := ⟨fun w => Tryz.isAgg57 w, fun w => Tryz.sizeOf57 w⟩
theorem ty59W : TyOf Tryz.prog 59 rRuleW := ⟨fun w => Tryz.isAgg59 w, fun w => Tryz.sizeOf59 w⟩
theorem so59W : StructOf Tryz.prog 59 fsRuleW := ⟨⟨_, Tryz.underlying59, ⟨rfl, rfl, ty3, by decide, ⟨rfl, rfl, ty9, by decide, ⟨rfl, rfl, ty3, by decide, ⟨rfl, rfl, ty33, by decide, ⟨rfl, rfl, ty3, by decide, ⟨rfl, rfl, ty56, by decide, ⟨rfl, rfl, ty3, by decide, ⟨rfl, rfl, ty3, by decide, ⟨rfl, rfl, ty33, by decide, ⟨rfl, rfl, ty57V59, by decide, trivial⟩⟩⟩⟩⟩⟩⟩⟩⟩⟩⟩, ty59W⟩
theorem zr59W : ∀ h, (rRuleW.ty zRuleW).p h (.agg #[Value.int .i64 0, Value.string ⟨#[]⟩, Value.int .i64 0, Value.slice none 0 0, Value.int .i64 0, Value.slice none 0 0, Value.int .i64 0, Value.int .i64 0, Value.slice none 0 0, Value.slice none 0 0]) := fun _ => ⟨_, ⟨[Value.int .i64 0], _, rfl, rfl, ⟨[Value.string ⟨#[]⟩], _, rfl, rfl, ⟨[Value.int .i64 0], _, rfl, rfl, ⟨[Value.slice none 0 0], _, rfl, ⟨_, rfl, none, ⟨0, Nat.le_refl _⟩, rfl, fun q => absurd rfl q⟩, ⟨[Value.int .i64 0], _, rfl, rfl, ⟨[Value.slice none 0 0], _, rfl, ⟨_, rfl, none, ⟨0, Nat.le_refl _⟩, rfl, fun q => absurd rfl q⟩, ⟨[Value.int .i64 0], _, rfl, rfl, ⟨[Value.int .i64 0], _, rfl, rfl, ⟨[Value.slice none 0 0], _, rfl, ⟨_, rfl, none, ⟨0, Nat.le_refl _⟩, rfl, fun q => absurd rfl q⟩, ⟨[Value.slice none 0 0], _, rfl, ⟨rfl, rfl⟩, rfl⟩⟩⟩⟩⟩⟩⟩⟩⟩⟩, rfl⟩
def GRuleW.up (x : GRuleW) (aTests : List GTest) : GRule := { Kind := x.Kind, Name := x.Name, Table := x.Table, Cols := x.Cols, Col := x.Col, Fixed := x.Fixed, Other := x.Other, OtherCol := x.OtherCol, Tables := x.Tables, Tests := aTests }
theorem up59W {h h' : PH} {x : GRuleW} (aTests : List GTest) {cs : List Value} (l : h.le h') (vTests : (tSl rTest aTests).p h' x.Tests) (r : SF.rel h x fsRuleW cs) : SF.rel h' (x.up aTests) fsRule cs := by
  obtain ⟨c0, _, rfl, r0, c1, _, rfl, r1, c2, _, rfl, r2, c3, _, rfl, r3, c4, _, rfl, r4, c5, _, rfl, r5, c6, _, rfl, r6, c7, _, rfl, r7, c8, _, rfl, r8, c9, _, rfl, r9, rz⟩ := r
  exact ⟨c0, _, rfl, (rInt).mono l r0, ⟨c1, _, rfl, (rStr).mono l r1, ⟨c2, _, rfl, (rInt).mono l r2, ⟨c3, _, rfl, ((rSl rInt)).mono l r3, ⟨c4, _, rfl, (rInt).mono l r4, ⟨c5, _, rfl, ((rSl rFixed)).mono l r5, ⟨c6, _, rfl, (rInt).mono l r6, ⟨c7, _, rfl, (rInt).mono l r7, ⟨c8, _, rfl, ((rSl rInt)).mono l r8, ⟨c9, _, rfl, ⟨_, r9.1, vTests⟩, rz⟩⟩⟩⟩⟩⟩⟩⟩⟩⟩
open Go Go.Proofs Go.Proofs.Tryz
def ltL : List Int → List Int → Bool
  | [], [] => false
  | [], _ :: _ => true
  | _ :: _, [] => false
  | a :: x, b :: y => if a = b then ltL x y else decide (a < b)
theorem In_spec (l : List Int) (n : Int) (hl : l.length ≤ 1000000000000) : Fun1 prog 24 [tSl rInt l, tV (.int .i64 n)] (tV (.bool (l.contains n))) := by
 refine Spec.enter func24 rfl rfl fun h0 w0 fr0 => ?_
 refine Jr (Ja rfl (JL_nil (J_seq (Jr (Ja rfl ?_)))))
 refine JL_nil (J_block ?_)
 refine J_loopL (σ := Nat) (fun i => i ≤ l.length ∧ l.contains n = (l.drop i).contains n) (fun i => upd (upd (upd env0 0 (tSl rInt l)) 1 (tV (.int .i64 n))) 5 (tV (.int .i64 i))) (fun i => []) (fun i => l.length - i) 0 ⟨by omega, by simp⟩ (zU) (LSub.rfl) ?_
 rintro i ⟨hi, hv⟩
 refine J_seq (Jr (Jm rfl (Jm rfl (Js rfl (step_len_sl underlying33 Sr) (Js rfl (step_lss Sr Sr) ?_)))))
 refine JL_nil ?_
 refine J_cond Sr (fun hc1 => ?_) (fun hc1 => ?_)
 ·
  try simp only [NF] at hc1
  have hlt : i < l.length := by omega
  have hd := dropB hlt
  refine J_skip (J_seq (J_block (Jr (Jm rfl (Jm rfl ?_)))))
  refine Js rfl (step_indexAddr_sl  underlying33 ty3 Sr Sr rfl (gb (by first | assumption | omega))) ?_
  refine Jl rfl ty3 Sr (Jm rfl (Js rfl (step_eql Sr Sr) (JL_nil ?_)))
  refine J_cond Sr (fun hc2 => ?_) (fun hc2 => ?_)
  ·
   try simp only [NF] at hc2
   have he : nth l i = n := by assumption
   refine Jr (Ja rfl (JL_nil (J_ret ?_)))
   refine K_ret1 (t := 4) rfl () ?_
   refine Sub.bool ?_
   rw [hv, hd]; simp [he]
  try simp only [NF] at hc2
  have hne : ¬ nth l i = n := by assumption
  refine J_skip (J_region (Jm rfl (Js rfl (step_add Sr Sr z6) (Ja rfl (JL_nil ?_)))))
  refine K_againL (σ := Nat) (s := i) (i + 1) zO ?_ (zU) (LSub.rfl)
  refine ⟨by omega, ?_⟩
  rw [hv, hd]; simp [Ne.symm hne]
 try simp only [NF] at hc1
 refine J_exit (Jr (Ja rfl (JL_nil (J_ret ?_))))
 refine K_ret1 (t := 4) rfl () ?_
 refine Sub.bool ?_
 rw [hv, List.drop_of_length_le zG]; rfl
theorem Less_spec (a b : List Int) (ha : a.length ≤ 1000000000000) (hb : b.length ≤ 1000000000000) : Fun1 prog 33 [tSl rInt a, tSl rInt b] (tV (.bool (ltL a b))) := by
 refine Spec.enter func33 rfl rfl fun h0 w0 fr0 => ?_
 refine Jr (Ja rfl (JL_nil (J_seq (Jr (Ja rfl ?_)))))
 refine JL_nil (J_block ?_)
 refine J_loopL (σ := Nat) (fun i => i ≤ a.length ∧ i ≤ b.length ∧ ltL a b = ltL (a.drop i) (b.drop i)) (fun i => upd (upd (upd env0 0 (tSl rInt a)) 1 (tSl rInt b)) 5 (tV (.int .i64 i))) (fun i => []) (fun i => a.length - i) 0 ⟨by omega, by omega, by simp⟩ (zU) (LSub.rfl) ?_
 rintro i ⟨hi, hj, hv⟩
 refine J_seq (Jr (Jm rfl (Jm rfl (Js rfl (step_len_sl underlying33 Sr) (Js rfl (step_lss Sr Sr) ?_)))))
 refine Jm rfl ?_
 refine Jk rfl Sr rfl (step_move Sr) ?_
 refine Jk rfl Sr rfl (step_move Sr) ?_
 refine Jg rfl Sr rfl (fun hw => step_len_sl underlying33 (Sub.w hw)) (Jg rfl Sr rfl (fun hw => step_lss (Sub.w hw) (Sub.w hw)) (Js rfl (step_pick_and Sr Sr) (JL_nil ?_)))
 refine J_cond Sr (fun hc1 => ?_) (fun hc1 => ?_)
 ·
  try simp only [NF] at hc1
  have hlt : i < a.length := by omega
  have hlu : i < b.length := by omega
  have hd := dropB hlt
  have he := dropB hlu
  refine J_skip (J_seq (J_block (J_seq ?_)))
  refine J_draw [⟨0, [0], true⟩, ⟨1, [5], true⟩, ⟨2, [18, 19], true⟩, ⟨3, [20], true⟩, ⟨4, [1], true⟩, ⟨5, [5], true⟩, ⟨6, [22, 23], true⟩, ⟨7, [24], true⟩, ⟨8, [21, 25], true⟩] rfl (by kernel_rfl) ?_
  refine Mv rfl rfl (Mv rfl rfl ?_)
  refine Mf rfl rfl (step_indexAddr_sl  underlying33 ty3 Sr Sr rfl (gb (by first | assumption | omega))) ?_
  refine Mf rfl rfl (step_load_ptr ty3 Sr) (Mv rfl rfl (Mv rfl rfl ?_))
  refine Mf rfl rfl (step_indexAddr_sl  underlying33 ty3 Sr Sr rfl (gb (by first | assumption | omega))) ?_
  refine Mf rfl rfl (step_load_ptr ty3 Sr) (Mf rfl rfl (step_neq Sr Sr) (JM_nil ?_))
  refine J_cond Sr (fun hc2 => ?_) (fun hc2 => ?_)
  ·
   try simp only [NF] at hc2
   have hne : ¬ nth a i = nth b i := by assumption
   refine J_seq ?_
   refine J_draw [⟨0, [0], true⟩, ⟨1, [5], true⟩, ⟨2, [27, 28], true⟩, ⟨3, [29], true⟩, ⟨4, [1], true⟩, ⟨5, [5], true⟩, ⟨6, [31, 32], true⟩, ⟨7, [33], true⟩, ⟨8, [30, 34], true⟩, ⟨9, [35], true⟩] rfl (by kernel_rfl) ?_
   refine Mv rfl rfl (Mv rfl rfl ?_)
   refine Mf rfl rfl (step_indexAddr_sl  underlying33 ty3 Sr Sr rfl (gb (by first | assumption | omega))) ?_
   refine Mf rfl rfl (step_load_ptr ty3 Sr) (Mv rfl rfl (Mv rfl rfl ?_))
   refine Mf rfl rfl (step_indexAddr_sl  underlying33 ty3 Sr Sr rfl (gb (by first | assumption | omega))) ?_
   refine Mf rfl rfl (step_load_ptr ty3 Sr) (Mf rfl rfl (step_lss Sr Sr) (Mf rfl rfl (step_assign Sr) (JM_nil (J_ret ?_))))
   refine K_ret1 (t := 4) rfl () ?_
   refine Sub.bool ?_
   rw [hv, hd, he]; simp [ltL, hne]
  try simp only [NF] at hc2
  have heq : nth a i = nth b i := by assumption
  refine J_skip (J_region (Jm rfl (Js rfl (step_add Sr Sr z6) (Ja rfl (JL_nil ?_)))))
  refine K_againL (σ := Nat) (s := i) (i + 1) zO ?_ (zU) (LSub.rfl)
  refine ⟨by omega, by omega, ?_⟩
  rw [hv, hd, he]; simp [ltL, heq]
 try simp only [NF] at hc1
 refine J_exit (Jr (Jm rfl (Js rfl (step_len_sl underlying33 Sr) (Jm rfl (Js rfl (step_len_sl underlying33 Sr) ?_)))))
 refine Js rfl (step_lss Sr Sr) (Ja rfl (JL_nil (J_ret ?_)))
 refine K_ret1 (t := 4) rfl () ?_
 refine Sub.bool ?_
 rw [hv]
 by_cases h1 : i < a.length
 ·
  obtain rfl : i = b.length := by omega
  rw [dropB h1, List.drop_length]; simp [ltL]; omega
 obtain rfl : i = a.length := by omega
 rw [List.drop_length]
 by_cases h3 : a.length < b.length
 ·
  rw [dropB h3]; simp [ltL, h3]
 rw [List.drop_of_length_le zG]; simp [ltL, h3]
def isSetFrom (n : Int) : Int → List Int → Bool
  | _, [] => true
  | p, a :: l => decide (0 ≤ a) && decide (a < n) && decide (p < a) && isSetFrom n a l
abbrev isSet (l : List Int) (n : Int) : Bool := isSetFrom n (-1) l
theorem Set_spec (l : List Int) (n : Int) (hl : l.length ≤ 1000000000000) : Fun1 prog 55 [tSl rInt l, tV (.int .i64 n)] (tV (.bool (isSet l n))) := by
 refine Spec.enter func55 rfl rfl fun h0 w0 fr0 => ?_
 refine Jr (Ja rfl (JL_nil (J_seq (Jr (Ja rfl ?_)))))
 refine JL_nil (J_block ?_)
 refine J_loopL (σ := Nat) (fun i => i ≤ l.length ∧ isSet l n = isSetFrom n (if i = 0 then -1 else nth l (i - 1)) (l.drop i)) (fun i => upd (upd (upd env0 0 (tSl rInt l)) 1 (tV (.int .i64 n))) 5 (tV (.int .i64 i))) (fun i => []) (fun i => l.length - i) 0 ⟨by omega, by simp⟩ (zU) (LSub.rfl) ?_
 rintro i ⟨hi, hv⟩
 refine J_seq (Jr (Jm rfl (Jm rfl (Js rfl (step_len_sl underlying33 Sr) (Js rfl (step_lss Sr Sr) ?_)))))
 refine JL_nil ?_
 refine J_cond Sr (fun hc1 => ?_) (fun hc1 => ?_)
 ·
  try simp only [NF] at hc1
  have hlt : i < l.length := by omega
  have hd := dropB hlt
  refine J_skip (J_seq (J_block (J_seq ?_)))
  refine J_draw [⟨0, [0], true⟩, ⟨1, [5], true⟩, ⟨2, [12, 13], true⟩, ⟨3, [14], true⟩, ⟨4, [15], true⟩, ⟨5, [16], true⟩, ⟨6, [0, 17], true⟩, ⟨7, [5, 17], true⟩, ⟨8, [17, 18, 19], true⟩, ⟨9, [17, 20], true⟩, ⟨10, [1, 17], true⟩, ⟨11, [17, 21, 22], true⟩, ⟨12, [17, 23], true⟩, ⟨13, [24], true⟩, ⟨14, [5, 25], true⟩, ⟨15, [25, 26], true⟩, ⟨16, [25, 27], true⟩, ⟨17, [0, 28], true⟩, ⟨18, [5, 28], true⟩, ⟨19, [28, 29, 30], true⟩, ⟨20, [28, 31], true⟩, ⟨21, [0, 28], true⟩, ⟨22, [5, 28], true⟩, ⟨23, [28, 34], true⟩, ⟨24, [28, 33, 35], true⟩, ⟨25, [28, 36], true⟩, ⟨26, [28, 32, 37], true⟩, ⟨27, [25, 28, 38], true⟩, ⟨28, [25, 39], true⟩] rfl (by kernel_rfl) ?_
  refine Mv rfl rfl (Mv rfl rfl ?_)
  refine Mf rfl rfl (step_indexAddr_sl  underlying33 ty3 Sr Sr rfl (gb (by first | assumption | omega))) ?_
  refine Mf rfl rfl (step_load_ptr ty3 Sr) (Mf rfl rfl (step_lss Sr Sr) (Mv rfl rfl ?_))
  refine Mk rfl rfl Sr rfl (step_move Sr) ?_
  refine Mk rfl rfl Sr rfl (step_move Sr) ?_
  refine Mg rfl rfl Sr rfl (fun hw => step_indexAddr_sl  underlying33 ty3 (Sub.w hw) (Sub.w hw) rfl (gb (by have hwq := hw; (try simp only [beqB_t, beqB_f, NF] at hwq); first | assumption | omega))) ?_
  refine Mg rfl rfl Sr rfl (fun hw => step_load_ptr ty3 (Sub.w hw)) ?_
  refine Mk rfl rfl Sr rfl (step_move Sr) ?_
  refine Mg rfl rfl Sr rfl (fun hw => step_geq (Sub.w hw) (Sub.w hw)) (Mf rfl rfl (step_pick_or Sr Sr) (Mv rfl rfl ?_))
  refine Mk rfl rfl Sr rfl (step_move Sr) ?_
  refine Mg rfl rfl Sr rfl (fun hw => step_gtr (Sub.w hw) Sr) (Mg rfl rfl Sr rfl (fun hw => step_move (Sub.w hw)) ?_)
  refine JM_stepG rfl rfl rfl rfl (Gd.nest Sr) rfl rfl (fun hw _ => step_move Sr) ?_
  refine JM_stepG rfl rfl rfl rfl (Gd.nest Sr) rfl rfl (fun hw _ => step_move Sr) ?_
  refine JM_stepG rfl rfl rfl rfl (Gd.nest Sr) rfl rfl (fun hw _ => step_indexAddr_sl  underlying33 ty3 (Sub.w hw) (Sub.w hw) rfl (gb (by have hwq := hw; (try simp only [beqB_t, beqB_f, NF] at hwq); first | assumption | omega))) ?_
  refine JM_stepG rfl rfl rfl rfl (Gd.nest Sr) rfl rfl (fun hw _ => step_load_ptr ty3 (Sub.w hw)) ?_
  refine JM_stepG rfl rfl rfl rfl (Gd.nest Sr) rfl rfl (fun hw _ => step_move Sr) ?_
  refine JM_stepG rfl rfl rfl rfl (Gd.nest Sr) rfl rfl (fun hw _ => step_move Sr) ?_
  refine JM_stepG rfl rfl rfl rfl (Gd.nest Sr) rfl rfl (fun hw _ => step_sub (Sub.w hw) Sr (by have hwq := hw; (try simp only [beqB_t, beqB_f, NF] at hwq); unfold in64; omega)) ?_
  refine JM_stepG rfl rfl rfl rfl (Gd.nest Sr) rfl rfl (fun hw _ => step_indexAddr_sl (i := i - 1) underlying33 ty3 (Sub.w hw) (Sub.w hw) (by have hwq := hw; (try simp only [beqB_t, beqB_f, NF] at hwq); omega) (gb (by have hwq := hw; (try simp only [beqB_t, beqB_f, NF] at hwq); first | assumption | omega))) ?_
  refine JM_stepG rfl rfl rfl rfl (Gd.nest Sr) rfl rfl (fun hw _ => step_load_ptr ty3 (Sub.w hw)) ?_
  refine JM_stepG rfl rfl rfl rfl (Gd.nest Sr) rfl rfl (fun hw _ => step_leq (Sub.w hw) (Sub.w hw)) ?_
  refine Mg rfl rfl Sr rfl (fun hw => step_pick_and (Sub.w hw) (Sub.ww hw)) (Mf rfl rfl (step_pick_or Sr Sr) (JM_nil ?_))
  refine J_cond Sr (fun hc2 => ?_) (fun hc2 => ?_)
  ·
   try simp only [NF] at hc2
   refine Jr (Ja rfl (JL_nil (J_ret ?_)))
   refine K_ret1 (t := 4) rfl () ?_
   refine Sub.bool ?_
   rw [hv, hd]
   simp only [isSetFrom]
   by_cases h0 : i = 0
   ·
    subst h0; simp at hc2 ⊢; omega
   simp only [h0, if_false]; simp; omega
  try simp only [NF] at hc2
  refine J_skip (J_region (Jm rfl (Js rfl (step_add Sr Sr z6) (Ja rfl (JL_nil ?_)))))
  refine K_againL (σ := Nat) (s := i) (i + 1) zO ?_ (zU) (LSub.rfl)
  refine ⟨by omega, ?_⟩
  rw [hv, hd]
  simp only [isSetFrom, Nat.add_sub_cancel, Nat.add_eq_zero_iff, Nat.one_ne_zero, and_false, if_false]
  by_cases h0 : i = 0
  ·
   subst h0; simp at hc2 ⊢; omega
  simp only [h0, if_false]; simp; omega
 try simp only [NF] at hc1
 refine J_exit (Jr (Ja rfl (JL_nil (J_ret ?_))))
 refine K_ret1 (t := 4) rfl () ?_
 refine Sub.bool ?_
 rw [hv, List.drop_of_length_le zG]; rfl
open Go Go.Proofs Go.Proofs.Tryz
def ordI (a b : Int) : Int := if a < b then -1 else if b < a then 1 else 0
def ordS (a b : ByteArray) : Int := if Op.bytesLess a.toList b.toList then -1 else if Op.bytesLess a.toList b.toList || a.toList == b.toList then 0 else 1
def cmpV (a b : GValue) : Int := if ordI a.Kind b.Kind ≠ 0 then ordI a.Kind b.Kind else if ordI a.N b.N ≠ 0 then ordI a.N b.N else ordS a.Text b.Text
def validV (v : GValue) : Bool :=
  if v.Kind ≠ 1 ∧ v.Text ≠ ⟨#[]⟩ then false
  else if v.Kind = 0 then decide (0 ≤ v.N) && decide (v.N ≤ 0)
  else if v.Kind = 1 then (if 200 < (v.Text.size : Int) then false else decide (0 ≤ v.N) && decide (v.N ≤ 0))
  else if v.Kind = 2 then decide (-1000000000 ≤ v.N) && decide (v.N ≤ 1000000000)
  else if v.Kind = 3 then decide (0 ≤ v.N) && decide (v.N ≤ 73048)
  else if v.Kind = 4 then decide (0 ≤ v.N) && decide (v.N ≤ 1)
  else false
def opHolds (op c : Int) : Bool :=
  if op = 1 then decide (c = 0) else if op = 2 then !decide (c = 0) else if op = 3 then decide (c < 0) else if op = 4 then decide (c ≤ 0) else false
def testV (a : GValue) (op : Int) (b : GValue) (add : Int) : Bool :=
  if validV a = false ∨ validV b = false ∨ a.Kind ≠ b.Kind then false
  else if a.Kind = 2 ∨ a.Kind = 3 then opHolds op (ordI (a.N - b.N) add)
  else if a.Kind = 1 ∨ a.Kind = 4 then (if add ≠ 0 then false else opHolds op (cmpV a b))
  else false
theorem order_int_spec (a b : Int) : Fun1 prog 110 [tV (.int .i64 a), tV (.int .i64 b)] (tV (.int .i64 (ordI a b))) := by
 refine Spec.enter func110 rfl rfl fun h0 w0 fr0 => ?_
 refine Jr (Ja rfl (JL_nil (J_seq (J_block (Jr ?_)))))
 refine Jm rfl (Jm rfl (Js rfl (step_lss Sr Sr) (Ja rfl (JL_nil ?_))))
 refine J_cond Sr (fun hc1 => ?_) (fun hc1 => ?_)
 ·
  try simp only [NF] at hc1
  refine Jr (Ja rfl (JL_nil (J_ret ?_)))
  refine K_ret1 (t := 4) rfl () ?_
  refine Sub.int ?_
  simp [ordI, *]
 try simp only [NF] at hc1
 refine Jr (Jm rfl (Jm rfl (Js rfl (step_gtr Sr Sr) (Ja rfl (JL_nil ?_)))))
 refine J_cond Sr (fun hc2 => ?_) (fun hc2 => ?_)
 ·
  try simp only [NF] at hc2
  refine Jr (Ja rfl (JL_nil (J_ret ?_)))
  refine K_ret1 (t := 4) rfl () ?_
  refine Sub.int ?_
  have : ¬ a < b := by omega
  simp [ordI, *]
 try simp only [NF] at hc2
 refine J_skip (Jr (Ja rfl (JL_nil (J_ret ?_))))
 refine K_ret1 (t := 4) rfl () ?_
 refine Sub.int ?_
 have h1 : ¬ a < b := by omega
 have h2 : ¬ b < a := by omega
 simp [ordI, h1, h2]
theorem order_str_spec (a b : ByteArray) : Fun1 prog 128 [tV (.string a), tV (.string b)] (tV (.int .i64 (ordS a b))) := by
 refine Spec.enter func128 rfl rfl fun h0 w0 fr0 => ?_
 refine Jr (Ja rfl (JL_nil (J_seq (J_block (Jr ?_)))))
 refine Jm rfl (Jm rfl (Js rfl (step_lss_str Sr Sr) (Ja rfl (JL_nil ?_))))
 refine J_cond Sr (fun hc1 => ?_) (fun hc1 => ?_)
 ·
  try simp only [NF] at hc1
  refine Jr (Ja rfl (JL_nil (J_ret ?_)))
  refine K_ret1 (t := 4) rfl () ?_
  refine Sub.int ?_
  simp [ordS, hc1]
 try simp only [NF] at hc1
 refine Jr (Jm rfl (Jm rfl (Js rfl (step_gtr_str Sr Sr) (Ja rfl (JL_nil ?_)))))
 refine J_cond Sr (fun hc2 => ?_) (fun hc2 => ?_)
 ·
  try simp only [NF] at hc2
  refine Jr (Ja rfl (JL_nil (J_ret ?_)))
  refine K_ret1 (t := 4) rfl () ?_
  refine Sub.int ?_
  simp only [ordS, hc1, hc2]; simp
 try simp only [NF] at hc2
 refine J_skip (Jr (Ja rfl (JL_nil (J_ret ?_))))
 refine K_ret1 (t := 4) rfl () ?_
 refine Sub.int ?_
 simp only [ordS, hc1]; simp_all
theorem Compare_spec (a b : GValue) : Fun1 prog 111 [rValue.ty a, rValue.ty b] (tV (.int .i64 (cmpV a b))) := by
 refine Spec.enter func111 rfl rfl fun h0 w0 fr0 => ?_
 refine Jr (Js rfl (step_box (R := rValue) Sr) (Js rfl (step_box (R := rValue) Sr) (Ja rfl (JL_nil (J_seq ?_)))))
 refine Jr (Js rfl (step_fieldAddr so91 Sr rfl) (Jl rfl ty3 Sr (Js rfl (step_fieldAddr so91 Sr rfl) (Jl rfl ty3 Sr (Js rfl (step_call0 (order_int_spec _ _) ⟨Sr, Sr, trivial⟩ call110) ?_)))))
 refine Ja rfl (JL_nil (Jr (Jm rfl (Js rfl (step_neq Sr Sr) (JL_nil ?_)))))
 refine J_cond Sr (fun hc1 => ?_) (fun hc1 => ?_)
 ·
  try simp only [NF] at hc1
  refine Jr (Jm rfl (Ja rfl (JL_nil (J_ret ?_))))
  refine K_ret1 (t := 4) rfl () ?_
  refine Sub.int ?_
  simp [cmpV, hc1]
 try simp only [NF] at hc1
 refine J_skip (J_seq (Jr (Js rfl (step_fieldAddr so91 Sr rfl) (Jl rfl ty3 Sr (Js rfl (step_fieldAddr so91 Sr rfl) ?_)))))
 refine Jl rfl ty3 Sr (Js rfl (step_call0 (order_int_spec _ _) ⟨Sr, Sr, trivial⟩ call110) (Ja rfl (JL_nil (Jr (Jm rfl ?_)))))
 refine Js rfl (step_neq Sr Sr) (JL_nil ?_)
 refine J_cond Sr (fun hc2 => ?_) (fun hc2 => ?_)
 ·
  try simp only [NF] at hc2
  refine Jr (Jm rfl (Ja rfl (JL_nil (J_ret ?_))))
  refine K_ret1 (t := 4) rfl () ?_
  refine Sub.int ?_
  simp [cmpV, hc1, hc2]
 try simp only [NF] at hc2
 refine J_skip (Jr (Js rfl (step_fieldAddr so91 Sr rfl) (Jl rfl ty9 Sr (Js rfl (step_fieldAddr so91 Sr rfl) (Jl rfl ty9 Sr ?_)))))
 refine Js rfl (step_call0 (order_str_spec _ _) ⟨Sr, Sr, trivial⟩ call128) (Ja rfl (JL_nil (J_ret ?_)))
 refine K_ret1 (t := 4) rfl () ?_
 refine Sub.int ?_
 simp [cmpV, hc1, hc2]
theorem Valid_spec (v : GValue) : Fun1 prog 109 [rValue.ty v] (tV (.bool (validV v))) := by
 refine Spec.enter func109 rfl rfl fun h0 w0 fr0 => ?_
 refine Jr (Js rfl (step_box (R := rValue) Sr) (Ja rfl (JL_nil (J_seq (Jr ?_)))))
 refine Js rfl (step_fieldAddr so91 Sr rfl) (Jl rfl ty3 Sr (Js rfl (step_neq Sr Sr) (Jm rfl ?_)))
 refine Jk rfl Sr rfl (step_fieldAddr so91 Sr rfl) ?_
 refine Jg rfl Sr rfl (fun hw => step_load_ptr ty9 (Sub.w hw)) (Jg rfl Sr rfl (fun hw => step_neq_str (Sub.w hw) Sr) (Js rfl (step_pick_and Sr Sr) (JL_nil ?_)))
 refine J_cond Sr (fun hc1 => ?_) (fun hc1 => ?_)
 ·
  try simp only [NF] at hc1
  refine Jr (Ja rfl (JL_nil (J_ret ?_)))
  refine K_ret1 (t := 2) rfl () ?_
  refine Sub.bool ?_
  simp [validV, hc1]
 try simp only [NF] at hc1
 refine J_skip (Jr (Ja rfl (Ja rfl (JL_nil (J_seq ?_)))))
 refine Jr (Js rfl (step_fieldAddr so91 Sr rfl) (Jl rfl ty3 Sr (JL_nil (J_block (Jr ?_)))))
 refine Js rfl (step_eql Sr Sr) (Ja rfl (JL_nil ?_))
 refine J_cond Sr (fun hc2 => ?_) (fun hc2 => ?_)
 ·
  try simp only [NF] at hc2
  refine J_skip (Jr (Jm rfl (Js rfl (step_fieldAddr so91 Sr rfl) (Jl rfl ty3 Sr (Js rfl (step_leq Sr Sr) ?_)))))
  refine Jm rfl ?_
  refine Jk rfl Sr rfl (step_fieldAddr so91 Sr rfl) ?_
  refine Jg rfl Sr rfl (fun hw => step_load_ptr ty3 (Sub.w hw)) ?_
  refine Jk rfl Sr rfl (step_move Sr) ?_
  refine Jg rfl Sr rfl (fun hw => step_leq (Sub.w hw) (Sub.w hw)) (Js rfl (step_pick_and Sr Sr) (Ja rfl (JL_nil (J_ret ?_))))
  refine K_ret1 (t := 2) rfl () ?_
  refine Sub.bool ?_
  have h1 : ¬ (v.Kind ≠ 1 ∧ v.Text ≠ ⟨#[]⟩) := by rintro ⟨p, q⟩; rcases hc1 with hc1 | hc1 <;> contradiction
  simp only [validV, if_neg h1]
  simp [*]
 try simp only [NF] at hc2
 refine Jr (Js rfl (step_eql Sr Sr) (Ja rfl (JL_nil ?_)))
 refine J_cond Sr (fun hc3 => ?_) (fun hc3 => ?_)
 ·
  try simp only [NF] at hc3
  refine Jr (Js rfl (step_fieldAddr so91 Sr rfl) (Jl rfl ty9 Sr (Js rfl (step_len_str underlying9 Sr) (Js rfl (step_gtr Sr Sr) (JL_nil ?_)))))
  refine J_cond Sr (fun hc4 => ?_) (fun hc4 => ?_)
  ·
   try simp only [NF] at hc4
   refine Jr (Ja rfl (JL_nil (J_ret ?_)))
   refine K_ret1 (t := 2) rfl () ?_
   refine Sub.bool ?_
   have h1 : ¬ (v.Kind ≠ 1 ∧ v.Text ≠ ⟨#[]⟩) := by rintro ⟨p, q⟩; rcases hc1 with hc1 | hc1 <;> contradiction
   simp only [validV, if_neg h1]
   first | (simp [*]; done) | (simp_all; omega)
  try simp only [NF] at hc4
  refine J_skip (Jr (Jm rfl (Js rfl (step_fieldAddr so91 Sr rfl) (Jl rfl ty3 Sr (Js rfl (step_leq Sr Sr) ?_)))))
  refine Jm rfl ?_
  refine Jk rfl Sr rfl (step_fieldAddr so91 Sr rfl) ?_
  refine Jg rfl Sr rfl (fun hw => step_load_ptr ty3 (Sub.w hw)) ?_
  refine Jk rfl Sr rfl (step_move Sr) ?_
  refine Jg rfl Sr rfl (fun hw => step_leq (Sub.w hw) (Sub.w hw)) (Js rfl (step_pick_and Sr Sr) (Ja rfl (JL_nil (J_ret ?_))))
  refine K_ret1 (t := 2) rfl () ?_
  refine Sub.bool ?_
  have h1 : ¬ (v.Kind ≠ 1 ∧ v.Text ≠ ⟨#[]⟩) := by rintro ⟨p, q⟩; rcases hc1 with hc1 | hc1 <;> contradiction
  simp only [validV, if_neg h1]
  first | (simp [*]; done) | (simp_all; omega)
 try simp only [NF] at hc3
 refine Jr (Js rfl (step_eql Sr Sr) (Ja rfl (JL_nil ?_)))
 refine J_cond Sr (fun hc5 => ?_) (fun hc5 => ?_)
 ·
  try simp only [NF] at hc5
  refine J_region (Ja rfl (Ja rfl (JL_nil (Jr (Jm rfl ?_)))))
  refine Js rfl (step_fieldAddr so91 Sr rfl) (Jl rfl ty3 Sr (Js rfl (step_leq Sr Sr) (Jm rfl ?_)))
  refine Jk rfl Sr rfl (step_fieldAddr so91 Sr rfl) ?_
  refine Jg rfl Sr rfl (fun hw => step_load_ptr ty3 (Sub.w hw)) ?_
  refine Jk rfl Sr rfl (step_move Sr) ?_
  refine Jg rfl Sr rfl (fun hw => step_leq (Sub.w hw) (Sub.w hw)) (Js rfl (step_pick_and Sr Sr) (Ja rfl (JL_nil (J_ret ?_))))
  refine K_ret1 (t := 2) rfl () ?_
  refine Sub.bool ?_
  have h1 : ¬ (v.Kind ≠ 1 ∧ v.Text ≠ ⟨#[]⟩) := by rintro ⟨p, q⟩; rcases hc1 with hc1 | hc1 <;> contradiction
  simp only [validV, if_neg h1]
  first | (simp [*]; done) | (simp_all; omega)
 try simp only [NF] at hc5
 refine Jr (Js rfl (step_eql Sr Sr) (Ja rfl (JL_nil ?_)))
 refine J_cond Sr (fun hc6 => ?_) (fun hc6 => ?_)
 ·
  try simp only [NF] at hc6
  refine J_region (Ja rfl (JL_nil (Jr (Jm rfl (Js rfl (step_fieldAddr so91 Sr rfl) ?_)))))
  refine Jl rfl ty3 Sr (Js rfl (step_leq Sr Sr) (Jm rfl ?_))
  refine Jk rfl Sr rfl (step_fieldAddr so91 Sr rfl) ?_
  refine Jg rfl Sr rfl (fun hw => step_load_ptr ty3 (Sub.w hw)) ?_
  refine Jk rfl Sr rfl (step_move Sr) ?_
  refine Jg rfl Sr rfl (fun hw => step_leq (Sub.w hw) (Sub.w hw)) (Js rfl (step_pick_and Sr Sr) (Ja rfl (JL_nil (J_ret ?_))))
  refine K_ret1 (t := 2) rfl () ?_
  refine Sub.bool ?_
  have h1 : ¬ (v.Kind ≠ 1 ∧ v.Text ≠ ⟨#[]⟩) := by rintro ⟨p, q⟩; rcases hc1 with hc1 | hc1 <;> contradiction
  simp only [validV, if_neg h1]
  first | (simp [*]; done) | (simp_all; omega)
 try simp only [NF] at hc6
 refine Jr (Js rfl (step_eql Sr Sr) (Ja rfl (JL_nil ?_)))
 refine J_cond Sr (fun hc7 => ?_) (fun hc7 => ?_)
 ·
  try simp only [NF] at hc7
  refine J_region (Ja rfl (JL_nil (Jr (Jm rfl (Js rfl (step_fieldAddr so91 Sr rfl) ?_)))))
  refine Jl rfl ty3 Sr (Js rfl (step_leq Sr Sr) (Jm rfl ?_))
  refine Jk rfl Sr rfl (step_fieldAddr so91 Sr rfl) ?_
  refine Jg rfl Sr rfl (fun hw => step_load_ptr ty3 (Sub.w hw)) ?_
  refine Jk rfl Sr rfl (step_move Sr) ?_
  refine Jg rfl Sr rfl (fun hw => step_leq (Sub.w hw) (Sub.w hw)) (Js rfl (step_pick_and Sr Sr) (Ja rfl (JL_nil (J_ret ?_))))
  refine K_ret1 (t := 2) rfl () ?_
  refine Sub.bool ?_
  have h1 : ¬ (v.Kind ≠ 1 ∧ v.Text ≠ ⟨#[]⟩) := by rintro ⟨p, q⟩; rcases hc1 with hc1 | hc1 <;> contradiction
  simp only [validV, if_neg h1]
  first | (simp [*]; done) | (simp_all; omega)
 try simp only [NF] at hc7
 refine Jr (Ja rfl (JL_nil (J_ret ?_)))
 refine K_ret1 (t := 2) rfl () ?_
 refine Sub.bool ?_
 have h1 : ¬ (v.Kind ≠ 1 ∧ v.Text ≠ ⟨#[]⟩) := by rintro ⟨p, q⟩; rcases hc1 with hc1 | hc1 <;> contradiction
 simp only [validV, if_neg h1]
 first | (simp [*]; done) | (simp_all; omega)
theorem cE_spec (c : Int) : Fun1 prog 129 [tV (.int .i64 c)] (tV (.bool (decide (c = 0)))) := by
 refine Spec.enter func129 rfl rfl fun h0 w0 fr0 => ?_
 refine Jr (Ja rfl (JL_nil (Jr (Jm rfl (Js rfl (step_eql Sr Sr) ?_)))))
 refine Ja rfl (JL_nil (J_ret ?_))
 exact K_ret1 (t := 2) rfl () Sr
theorem cU_spec (c : Int) : Fun1 prog 130 [tV (.int .i64 c)] (tV (.bool (!decide (c = 0)))) := by
 refine Spec.enter func130 rfl rfl fun h0 w0 fr0 => ?_
 refine Jr (Ja rfl (JL_nil (Jr (Jm rfl (Js rfl (step_neq Sr Sr) ?_)))))
 refine Ja rfl (JL_nil (J_ret ?_))
 exact K_ret1 (t := 2) rfl () Sr
theorem cL_spec (c : Int) : Fun1 prog 131 [tV (.int .i64 c)] (tV (.bool (decide (c < 0)))) := by
 refine Spec.enter func131 rfl rfl fun h0 w0 fr0 => ?_
 refine Jr (Ja rfl (JL_nil (Jr (Jm rfl (Js rfl (step_lss Sr Sr) ?_)))))
 refine Ja rfl (JL_nil (J_ret ?_))
 exact K_ret1 (t := 2) rfl () Sr
theorem cA_spec (c : Int) : Fun1 prog 132 [tV (.int .i64 c)] (tV (.bool (decide (c ≤ 0)))) := by
 refine Spec.enter func132 rfl rfl fun h0 w0 fr0 => ?_
 refine Jr (Ja rfl (JL_nil (Jr (Jm rfl (Js rfl (step_leq Sr Sr) ?_)))))
 refine Ja rfl (JL_nil (J_ret ?_))
 exact K_ret1 (t := 2) rfl () Sr
def comps : List Gcomparison := [⟨1, .func (.func 129) #[] #[]⟩, ⟨2, .func (.func 130) #[] #[]⟩, ⟨3, .func (.func 131) #[] #[]⟩, ⟨4, .func (.func 132) #[] #[]⟩]
theorem comparisons_spec  : Fun1 prog 112 [] (tSl rcomparison comps) := by
 refine Spec.enter func112 rfl rfl fun h0 w0 fr0 => ?_
 refine Jr (Ja rfl (JL_nil (Jr ?_)))
 refine Js rfl (step_build (x := (⟨1, .func (.func 129) #[] #[]⟩ : Gcomparison)) (zs := [[Value.int .i64 0], [Value.nilFunc]]) so182 (fun w => zeroValue182 w) ⟨Sr, (by first | exact Sr | exact Sub.rV rfl), trivial⟩ ⟨⟨Sr, rfl⟩, ⟨(by first | exact Sr | exact Sub.rV rfl), rfl⟩, trivial⟩) ?_
 refine Js rfl (step_build (x := (⟨2, .func (.func 130) #[] #[]⟩ : Gcomparison)) (zs := [[Value.int .i64 0], [Value.nilFunc]]) so182 (fun w => zeroValue182 w) ⟨Sr, (by first | exact Sr | exact Sub.rV rfl), trivial⟩ ⟨⟨Sr, rfl⟩, ⟨(by first | exact Sr | exact Sub.rV rfl), rfl⟩, trivial⟩) ?_
 refine Js rfl (step_build (x := (⟨3, .func (.func 131) #[] #[]⟩ : Gcomparison)) (zs := [[Value.int .i64 0], [Value.nilFunc]]) so182 (fun w => zeroValue182 w) ⟨Sr, (by first | exact Sr | exact Sub.rV rfl), trivial⟩ ⟨⟨Sr, rfl⟩, ⟨(by first | exact Sr | exact Sub.rV rfl), rfl⟩, trivial⟩) ?_
 refine Js rfl (step_build (x := (⟨4, .func (.func 132) #[] #[]⟩ : Gcomparison)) (zs := [[Value.int .i64 0], [Value.nilFunc]]) so182 (fun w => zeroValue182 w) ⟨Sr, (by first | exact Sr | exact Sub.rV rfl), trivial⟩ ⟨⟨Sr, rfl⟩, ⟨(by first | exact Sr | exact Sub.rV rfl), rfl⟩, trivial⟩) ?_
 refine Js rfl (step_literal (ys := [_, _, _, _]) underlying179 el182 ⟨rfl, Sr, rfl, Sr, rfl, Sr, rfl, Sr, trivial⟩ rfl (by decide)) ?_
 refine Ja rfl (JL_nil (J_ret ?_))
 refine K_ret1 (t := 0) rfl () Sr
theorem step_comp {ro : Option Nat} {N : Nat} {ds : List Deferred} {h0 : PH} {w0 : World} {r : PH} {E : Env} {L : List SP} {d : Option Nat} {ty : Nat} {pos : String} {af : Array Edge} {g : Option (Nat × Bool)} {x y : Operand} {ts : Array Nat} {i : Nat} {c : Int}
    (hi : i < 4) (hx : Sub (opTy E x) (rV.ty (nth comps i).holds)) (hy : Sub (opTy E y) (tV (.int .i64 c))) :
    Step (X := Unit) ⟨prog, ro, N, ds, h0, w0, r⟩ ⟨d, .call { callee := .value x, args := #[y], argTypes := ts }, ty, pos, af, g⟩ E L (fun _ => tV (.bool (opHolds (nth comps i).op c))) (fun _ => L) := by
  have key : ∀ f v, Fun1 prog f [tV (.int .i64 c)] (tV (.bool v)) → (∀ args w, (callFunc f args).run prog w = .ok (.enter f args) w) → (nth comps i).holds = .func (.func f) #[] #[] → opHolds (nth comps i).op c = v →
      Step (X := Unit) ⟨prog, ro, N, ds, h0, w0, r⟩ ⟨d, .call { callee := .value x, args := #[y], argTypes := ts }, ty, pos, af, g⟩ E L (fun _ => tV (.bool (opHolds (nth comps i).op c))) (fun _ => L) := by
    intro f v hf he h1 h2
    rw [h2]
    refine step_callv0 (f := f) (aT := [tV (.int .i64 c)]) (As := []) (fun h u e => ?_) hf ⟨hy, trivial⟩ he
    obtain ⟨e1, _⟩ := hx h u e
    rw [h1] at e1
    exact ⟨[], e1, trivial⟩
  rcases i with _ | _ | _ | _ | i
  · exact key 129 _ (cE_spec c) call129 rfl (by simp [opHolds, comps])
  · exact key 130 _ (cU_spec c) call130 rfl (by simp [opHolds, comps])
  · exact key 131 _ (cL_spec c) call131 rfl (by simp [opHolds, comps])
  · exact key 132 _ (cA_spec c) call132 rfl (by simp [opHolds, comps])
  · omega
theorem opHolds_none {op c : Int} (h : ∀ k, k < 4 → (nth comps k).op ≠ op) : opHolds op c = false := by
  have h0 := h 0 (by omega); have h1 := h 1 (by omega); have h2 := h 2 (by omega); have h3 := h 3 (by omega)
  simp only [comps, nth] at h0 h1 h2 h3
  simp [opHolds, Ne.symm h0, Ne.symm h1, Ne.symm h2, Ne.symm h3]
theorem valid_N {v : GValue} (h : validV v = true) : -1000000000 ≤ v.N ∧ v.N ≤ 1000000000 := by
  unfold validV at h
  repeat' split at h
  all_goals simp at h
  all_goals omega
theorem in64_sub {a b : GValue} (ha : validV a = true) (hb : validV b = true) : in64 (a.N - b.N) := by
  have := valid_N ha
  have := valid_N hb
  unfold in64; omega
theorem Test_spec (a b : GValue) (op add : Int) : Fun1 prog 88 [rValue.ty a, tV (.int .i64 op), rValue.ty b, tV (.int .i64 add)] (tV (.bool (testV a op b add))) := by
 refine Spec.enter func88 rfl rfl fun h0 w0 fr0 => ?_
 refine Jr (Js rfl (step_box (R := rValue) Sr) (Js rfl (step_box (R := rValue) Sr) (Ja rfl (JL_nil (J_seq ?_)))))
 refine Jr (Jl rfl ty91 Sr (Js rfl (step_call0 (Valid_spec _) ⟨Sr, trivial⟩ call109) (Js rfl (step_not Sr) (Jm rfl ?_))))
 refine Jk rfl Sr rfl (step_load_ptr ty91 Sr) ?_
 refine Jg rfl Sr rfl (fun hw => step_call0 (Valid_spec _) ⟨(Sub.w hw), trivial⟩ call109) (Jg rfl Sr rfl (fun hw => step_not (Sub.w hw)) (Js rfl (step_pick_or Sr Sr) (Jm rfl ?_)))
 refine Jk rfl Sr rfl (step_fieldAddr so91 Sr rfl) ?_
 refine Jg rfl Sr rfl (fun hw => step_load_ptr ty3 (Sub.w hw)) ?_
 refine Jk rfl Sr rfl (step_fieldAddr so91 Sr rfl) ?_
 refine Jg rfl Sr rfl (fun hw => step_load_ptr ty3 (Sub.w hw)) (Jg rfl Sr rfl (fun hw => step_neq (Sub.w hw) (Sub.w hw)) (Js rfl (step_pick_or Sr Sr) (JL_nil ?_)))
 refine J_cond Sr (fun hc1 => ?_) (fun hc1 => ?_)
 ·
  try simp only [NF] at hc1
  refine Jr (Ja rfl (JL_nil (J_ret ?_)))
  refine K_ret1 (t := 8) rfl () ?_
  refine Sub.bool ?_
  have : (validV a = false ∨ validV b = false ∨ a.Kind ≠ b.Kind) := by simpa [or_assoc] using hc1
  simp only [testV, if_pos this]
 try simp only [NF] at hc1
 have hva : validV a = true := by simp_all
 have hvb : validV b = true := by simp_all
 have hk : a.Kind = b.Kind := by simp_all
 have hpre : ¬ (validV a = false ∨ validV b = false ∨ a.Kind ≠ b.Kind) := by simp [hva, hvb, hk]
 refine J_skip (Jr (Ja rfl (JL_nil (J_seq (Jr ?_)))))
 refine Js rfl (step_fieldAddr so91 Sr rfl) (Jl rfl ty3 Sr (JL_nil (J_block (J_seq (Jr ?_)))))
 refine Js rfl (step_eql Sr Sr) (Ja rfl (JL_nil ?_))
 refine J_cond Sr (fun hc2 => ?_) (fun hc2 => ?_)
 ·
  try simp only [NF] at hc2
  refine J_skip ?_
  refine J_cond Sr (fun hc3 => ?_) (fun hc3 => ?_)
  ·
   try simp only [NF] at hc3
   refine J_region (Js rfl (step_fieldAddr so91 Sr rfl) (Jl rfl ty3 Sr (Js rfl (step_fieldAddr so91 Sr rfl) (Jl rfl ty3 Sr (Js rfl (step_sub Sr Sr (in64_sub hva hvb)) ?_)))))
   refine Jm rfl (Js rfl (step_call0 (order_int_spec _ _) ⟨Sr, Sr, trivial⟩ call110) (Ja rfl (JL_nil (J_seq (Jr ?_)))))
   refine Js rfl (step_call0 (comparisons_spec ) trivial call112) (Js rfl (step_len_sl underlying179 Sr) (Jm rfl (JL_nil (J_block ?_))))
   refine J_loopL (σ := Nat) (fun i => i ≤ 4 ∧ ∀ k, k < i → (nth comps k).op ≠ op) (fun i => upd (upd (upd (upd (upd env0 1 (tV (.int .i64 op))) 9 (tV (.int .i64 (ordI (a.N - b.N) add)))) 47 (tSl rcomparison comps)) 48 (tV (.int .i64 4))) 49 (tV (.int .i64 i))) (fun i => []) (fun i => 4 - i) 0 ⟨by omega, fun k hk => by omega⟩ (zU) (LSub.rfl) ?_
   rintro i ⟨hi, hv⟩
   refine Jr (Js rfl (step_lss Sr Sr) (JL_nil (J_seq ?_)))
   refine J_cond Sr (fun hc4 => ?_) (fun hc4 => ?_)
   ·
    try simp only [NF] at hc4
    have hlt : i < 4 := by omega
    refine J_skip (J_seq (J_block (Jr ?_)))
    refine Js rfl (step_indexAddr_sl  underlying179 ty182 Sr Sr rfl (gb (by exact hlt))) ?_
    refine Jl rfl ty182 Sr ?_
    refine Jx rfl (step_alloc (fun w => zeroValue182 w) zr182) fun v11 => ?_
    refine Ju (step_store_box ty182 Sr Sr zS) fun _ => ?_
    refine JL_freeze (t := 11) (Sel.take (Sel.none _)) Frz.box ?_
    refine JL_nil (Jr (Js rfl (step_fieldAddr so182 Sr rfl) (Jl rfl ty3 Sr (Jm rfl (Js rfl (step_eql Sr Sr) ?_)))))
    refine JL_nil ?_
    refine J_cond Sr (fun hc5 => ?_) (fun hc5 => ?_)
    ·
     try simp only [NF] at hc5
     refine Jr (Js rfl (step_fieldAddr so182 Sr rfl) (Jl rfl ty147 Sr (Jm rfl (Js rfl (step_comp hlt Sr Sr) (Ja rfl ?_)))))
     refine JL_nil (J_ret ?_)
     refine K_ret1 (t := 8) rfl () ?_
     refine Sub.bool ?_
     rw [testV, if_neg hpre]
     simp_all
    try simp only [NF] at hc5
    refine J_skip (J_region (Js rfl (step_add Sr Sr z6) (Jm rfl (JL_nil ?_))))
    refine K_againL (σ := Nat) (s := i) (i + 1) zO ?_ (zU) (LSub.rfl)
    refine ⟨by omega, fun k hk => ?_⟩
    by_cases e : k = i
    ·
     subst e; simp_all
    exact hv k zG
   try simp only [NF] at hc4
   have hno := fun c => opHolds_none (op := op) (c := c) (fun k hk => hv k zG)
   refine J_exit (Jr (Ja rfl (JL_nil (J_ret ?_))))
   refine K_ret1 (t := 8) rfl () ?_
   refine Sub.bool ?_
   rw [testV, if_neg hpre]
   simp_all
  try simp only [NF] at hc3
  first | contradiction | omega | (simp_all; done)
 try simp only [NF] at hc2
 refine J_region (Js rfl (step_eql Sr Sr) (Ja rfl (JL_nil ?_)))
 refine J_cond Sr (fun hc6 => ?_) (fun hc6 => ?_)
 ·
  try simp only [NF] at hc6
  refine J_region (Js rfl (step_fieldAddr so91 Sr rfl) (Jl rfl ty3 Sr (Js rfl (step_fieldAddr so91 Sr rfl) (Jl rfl ty3 Sr (Js rfl (step_sub Sr Sr (in64_sub hva hvb)) ?_)))))
  refine Jm rfl (Js rfl (step_call0 (order_int_spec _ _) ⟨Sr, Sr, trivial⟩ call110) (Ja rfl (JL_nil (J_seq (Jr ?_)))))
  refine Js rfl (step_call0 (comparisons_spec ) trivial call112) (Js rfl (step_len_sl underlying179 Sr) (Jm rfl (JL_nil (J_block ?_))))
  refine J_loopL (σ := Nat) (fun i => i ≤ 4 ∧ ∀ k, k < i → (nth comps k).op ≠ op) (fun i => upd (upd (upd (upd (upd env0 1 (tV (.int .i64 op))) 9 (tV (.int .i64 (ordI (a.N - b.N) add)))) 47 (tSl rcomparison comps)) 48 (tV (.int .i64 4))) 49 (tV (.int .i64 i))) (fun i => []) (fun i => 4 - i) 0 ⟨by omega, fun k hk => by omega⟩ (zU) (LSub.rfl) ?_
  rintro i ⟨hi, hv⟩
  refine Jr (Js rfl (step_lss Sr Sr) (JL_nil (J_seq ?_)))
  refine J_cond Sr (fun hc7 => ?_) (fun hc7 => ?_)
  ·
   try simp only [NF] at hc7
   have hlt : i < 4 := by omega
   refine J_skip (J_seq (J_block (Jr ?_)))
   refine Js rfl (step_indexAddr_sl  underlying179 ty182 Sr Sr rfl (gb (by exact hlt))) ?_
   refine Jl rfl ty182 Sr ?_
   refine Jx rfl (step_alloc (fun w => zeroValue182 w) zr182) fun v11 => ?_
   refine Ju (step_store_box ty182 Sr Sr zS) fun _ => ?_
   refine JL_freeze (t := 11) (Sel.take (Sel.none _)) Frz.box ?_
   refine JL_nil (Jr (Js rfl (step_fieldAddr so182 Sr rfl) (Jl rfl ty3 Sr (Jm rfl (Js rfl (step_eql Sr Sr) ?_)))))
   refine JL_nil ?_
   refine J_cond Sr (fun hc8 => ?_) (fun hc8 => ?_)
   ·
    try simp only [NF] at hc8
    refine Jr (Js rfl (step_fieldAddr so182 Sr rfl) (Jl rfl ty147 Sr (Jm rfl (Js rfl (step_comp hlt Sr Sr) (Ja rfl ?_)))))
    refine JL_nil (J_ret ?_)
    refine K_ret1 (t := 8) rfl () ?_
    refine Sub.bool ?_
    rw [testV, if_neg hpre]
    simp_all
   try simp only [NF] at hc8
   refine J_skip (J_region (Js rfl (step_add Sr Sr z6) (Jm rfl (JL_nil ?_))))
   refine K_againL (σ := Nat) (s := i) (i + 1) zO ?_ (zU) (LSub.rfl)
   refine ⟨by omega, fun k hk => ?_⟩
   by_cases e : k = i
   ·
    subst e; simp_all
   exact hv k zG
  try simp only [NF] at hc7
  have hno := fun c => opHolds_none (op := op) (c := c) (fun k hk => hv k zG)
  refine J_exit (Jr (Ja rfl (JL_nil (J_ret ?_))))
  refine K_ret1 (t := 8) rfl () ?_
  refine Sub.bool ?_
  rw [testV, if_neg hpre]
  simp_all
 try simp only [NF] at hc6
 refine J_seq (Jr (Js rfl (step_eql Sr Sr) (Ja rfl (JL_nil ?_))))
 refine J_cond Sr (fun hc9 => ?_) (fun hc9 => ?_)
 ·
  try simp only [NF] at hc9
  refine J_skip ?_
  refine J_cond Sr (fun hc10 => ?_) (fun hc10 => ?_)
  ·
   try simp only [NF] at hc10
   refine J_seq (Jr (Jm rfl (Js rfl (step_neq Sr Sr) (JL_nil ?_))))
   refine J_cond Sr (fun hc11 => ?_) (fun hc11 => ?_)
   ·
    try simp only [NF] at hc11
    refine Jr (Ja rfl (JL_nil (J_ret ?_)))
    refine K_ret1 (t := 8) rfl () ?_
    refine Sub.bool ?_
    rw [testV, if_neg hpre]
    simp_all
   try simp only [NF] at hc11
   refine J_skip (J_region (Jl rfl ty91 Sr (Jl rfl ty91 Sr (Js rfl (step_call0 (Compare_spec _ _) ⟨Sr, Sr, trivial⟩ call111) (Ja rfl ?_)))))
   refine JL_nil (J_seq (Jr (Js rfl (step_call0 (comparisons_spec ) trivial call112) (Js rfl (step_len_sl underlying179 Sr) (Jm rfl ?_)))))
   refine JL_nil (J_block ?_)
   refine J_loopL (σ := Nat) (fun i => i ≤ 4 ∧ ∀ k, k < i → (nth comps k).op ≠ op) (fun i => upd (upd (upd (upd (upd env0 1 (tV (.int .i64 op))) 9 (tV (.int .i64 (cmpV a b)))) 47 (tSl rcomparison comps)) 48 (tV (.int .i64 4))) 49 (tV (.int .i64 i))) (fun i => []) (fun i => 4 - i) 0 ⟨by omega, fun k hk => by omega⟩ (zU) (LSub.rfl) ?_
   rintro i ⟨hi, hv⟩
   refine Jr (Js rfl (step_lss Sr Sr) (JL_nil (J_seq ?_)))
   refine J_cond Sr (fun hc12 => ?_) (fun hc12 => ?_)
   ·
    try simp only [NF] at hc12
    have hlt : i < 4 := by omega
    refine J_skip (J_seq (J_block (Jr ?_)))
    refine Js rfl (step_indexAddr_sl  underlying179 ty182 Sr Sr rfl (gb (by exact hlt))) ?_
    refine Jl rfl ty182 Sr ?_
    refine Jx rfl (step_alloc (fun w => zeroValue182 w) zr182) fun v11 => ?_
    refine Ju (step_store_box ty182 Sr Sr zS) fun _ => ?_
    refine JL_freeze (t := 11) (Sel.take (Sel.none _)) Frz.box ?_
    refine JL_nil (Jr (Js rfl (step_fieldAddr so182 Sr rfl) (Jl rfl ty3 Sr (Jm rfl (Js rfl (step_eql Sr Sr) ?_)))))
    refine JL_nil ?_
    refine J_cond Sr (fun hc13 => ?_) (fun hc13 => ?_)
    ·
     try simp only [NF] at hc13
     refine Jr (Js rfl (step_fieldAddr so182 Sr rfl) (Jl rfl ty147 Sr (Jm rfl (Js rfl (step_comp hlt Sr Sr) (Ja rfl ?_)))))
     refine JL_nil (J_ret ?_)
     refine K_ret1 (t := 8) rfl () ?_
     refine Sub.bool ?_
     rw [testV, if_neg hpre]
     simp_all
    try simp only [NF] at hc13
    refine J_skip (J_region (Js rfl (step_add Sr Sr z6) (Jm rfl (JL_nil ?_))))
    refine K_againL (σ := Nat) (s := i) (i + 1) zO ?_ (zU) (LSub.rfl)
    refine ⟨by omega, fun k hk => ?_⟩
    by_cases e : k = i
    ·
     subst e; simp_all
    exact hv k zG
   try simp only [NF] at hc12
   have hno := fun c => opHolds_none (op := op) (c := c) (fun k hk => hv k zG)
   refine J_exit (Jr (Ja rfl (JL_nil (J_ret ?_))))
   refine K_ret1 (t := 8) rfl () ?_
   refine Sub.bool ?_
   rw [testV, if_neg hpre]
   simp_all
  try simp only [NF] at hc10
  first | contradiction | omega | (simp_all; done)
 try simp only [NF] at hc9
 refine J_region (Js rfl (step_eql Sr Sr) (Ja rfl (JL_nil ?_)))
 refine J_cond Sr (fun hc14 => ?_) (fun hc14 => ?_)
 ·
  try simp only [NF] at hc14
  refine J_seq (Jr (Jm rfl (Js rfl (step_neq Sr Sr) (JL_nil ?_))))
  refine J_cond Sr (fun hc15 => ?_) (fun hc15 => ?_)
  ·
   try simp only [NF] at hc15
   refine Jr (Ja rfl (JL_nil (J_ret ?_)))
   refine K_ret1 (t := 8) rfl () ?_
   refine Sub.bool ?_
   rw [testV, if_neg hpre]
   simp_all
  try simp only [NF] at hc15
  refine J_skip (J_region (Jl rfl ty91 Sr (Jl rfl ty91 Sr (Js rfl (step_call0 (Compare_spec _ _) ⟨Sr, Sr, trivial⟩ call111) (Ja rfl ?_)))))
  refine JL_nil (J_seq (Jr (Js rfl (step_call0 (comparisons_spec ) trivial call112) (Js rfl (step_len_sl underlying179 Sr) (Jm rfl ?_)))))
  refine JL_nil (J_block ?_)
  refine J_loopL (σ := Nat) (fun i => i ≤ 4 ∧ ∀ k, k < i → (nth comps k).op ≠ op) (fun i => upd (upd (upd (upd (upd env0 1 (tV (.int .i64 op))) 9 (tV (.int .i64 (cmpV a b)))) 47 (tSl rcomparison comps)) 48 (tV (.int .i64 4))) 49 (tV (.int .i64 i))) (fun i => []) (fun i => 4 - i) 0 ⟨by omega, fun k hk => by omega⟩ (zU) (LSub.rfl) ?_
  rintro i ⟨hi, hv⟩
  refine Jr (Js rfl (step_lss Sr Sr) (JL_nil (J_seq ?_)))
  refine J_cond Sr (fun hc16 => ?_) (fun hc16 => ?_)
  ·
   try simp only [NF] at hc16
   have hlt : i < 4 := by omega
   refine J_skip (J_seq (J_block (Jr ?_)))
   refine Js rfl (step_indexAddr_sl  underlying179 ty182 Sr Sr rfl (gb (by exact hlt))) ?_
   refine Jl rfl ty182 Sr ?_
   refine Jx rfl (step_alloc (fun w => zeroValue182 w) zr182) fun v11 => ?_
   refine Ju (step_store_box ty182 Sr Sr zS) fun _ => ?_
   refine JL_freeze (t := 11) (Sel.take (Sel.none _)) Frz.box ?_
   refine JL_nil (Jr (Js rfl (step_fieldAddr so182 Sr rfl) (Jl rfl ty3 Sr (Jm rfl (Js rfl (step_eql Sr Sr) ?_)))))
   refine JL_nil ?_
   refine J_cond Sr (fun hc17 => ?_) (fun hc17 => ?_)
   ·
    try simp only [NF] at hc17
    refine Jr (Js rfl (step_fieldAddr so182 Sr rfl) (Jl rfl ty147 Sr (Jm rfl (Js rfl (step_comp hlt Sr Sr) (Ja rfl ?_)))))
    refine JL_nil (J_ret ?_)
    refine K_ret1 (t := 8) rfl () ?_
    refine Sub.bool ?_
    rw [testV, if_neg hpre]
    simp_all
   try simp only [NF] at hc17
   refine J_skip (J_region (Js rfl (step_add Sr Sr z6) (Jm rfl (JL_nil ?_))))
   refine K_againL (σ := Nat) (s := i) (i + 1) zO ?_ (zU) (LSub.rfl)
   refine ⟨by omega, fun k hk => ?_⟩
   by_cases e : k = i
   ·
    subst e; simp_all
   exact hv k zG
  try simp only [NF] at hc16
  have hno := fun c => opHolds_none (op := op) (c := c) (fun k hk => hv k zG)
  refine J_exit (Jr (Ja rfl (JL_nil (J_ret ?_))))
  refine K_ret1 (t := 8) rfl () ?_
  refine Sub.bool ?_
  rw [testV, if_neg hpre]
  simp_all
 try simp only [NF] at hc14
 refine Jr (Ja rfl (JL_nil (J_ret ?_)))
 refine K_ret1 (t := 8) rfl () ?_
 refine Sub.bool ?_
 rw [testV, if_neg hpre]
 simp_all
open Go
def tailAt (v : Value) (n : Nat) : Value := match v with
  | .slice (some a) l c => .slice (if c = n then some a else some ⟨a.block, a.off + n, none⟩) (l - n) (c - n)
  | v => v
section
variable {C : Cx} {E : Env} {L : List SP} {d : Option Nat} {ty : Nat} {pos : String} {af : Array Edge} {g : Option (Nat × Bool)}
theorem step_slice_tail8 {T e n : Nat} {x y : Operand} {v : Value} {xs : List Int} {S : List SP} {k : IntKind} {i : Int} (hu : C.P.underlying T = some (.slice e)) (hR : TyOf C.P e rU8)
    (hx : Sub (opTy E x) (rV.ty v)) (hy : Sub (opTy E y) (tV (.int k i))) (hi : i = n) (sel : Sel L [own e rU8 v xs] S) (hn : n ≤ xs.length) :
    Step1 C ⟨d, .slice T x (some y) none none, ty, pos, af, g⟩ E L (tV (tailAt v n)) :=
  Step.of_run (by intro c h; cases h) fun a w h m l sp st fr => by
    have hv : a.eval x = v := (fr.get hx).1
    have h2 : a.eval y = .int k i := fr.get hy
    subst hi
    obtain ⟨m1, m2, d12, rfl, ho, s2⟩ := sel.one.1 st
    have hsz := hR.size
    have hk : rU8.k = 1 := rfl
    rw [hk] at hsz
    rcases ho with ⟨rfl, rfl, rfl⟩ | ⟨b, cap, cur, rfl, rfl, hl, hm, hs, r⟩
    · have hn0 : n = 0 := by simpa using hn
      subst hn0
      refine ⟨(), .slice none 0 0, w, h, _, ?_, HL.refl, sp, st, rfl⟩
      simp [execOp, Instr.sliceAt, run_underlying hu, hv, h2, Instr.slice, Instr.sliceBounds, Instr.sliceBound, asIntOf, hsz]
    · have hnc : (n : Int) ≤ cap := by omega
      refine ⟨(), .slice (if cap = n then some ⟨b, 0, none⟩ else some ⟨b, 0 + n, none⟩) (xs.length - n) (cap - n), w, h, _, ?_, HL.refl, sp, st, rfl⟩
      simp [execOp, Instr.sliceAt, run_underlying hu, hv, h2, Instr.slice, Instr.sliceBounds, Instr.sliceBound, asIntOf, hsz, hn, hl, show n ≤ cap by omega]
      rw [addr_add, Nat.zero_add]
theorem step_copy_tail8 {T e n U : Nat} {x y : Operand} {v : Value} {xs ys : List Int} {S : List SP} (hu : C.P.underlying T = some (.slice e)) (hs : (C.P.info? e).map (·.size) = some 1)
    (hx : Sub (opTy E x) (tV (tailAt v n))) (hy : Sub (opTy E y) (tSl rU8 ys)) (sel : Sel L [own e rU8 v xs] S) (hn : n + ys.length ≤ xs.length) (hne : ys ≠ []) :
    Step C ⟨d, .call { callee := .builtin .copy, args := #[x, y], argTypes := #[T, U] }, ty, pos, af, g⟩ E L (fun _ : Unit => tV (.int .i64 (ys.length : Int))) (fun _ => own e rU8 v (xs.take n ++ ys ++ xs.drop (n + ys.length)) :: S) :=
  Step.of_run (by intro c h; cases h) fun a w h m l sp st fr => by
    have hv : a.eval x = tailAt v n := fr.get hx
    obtain ⟨ao, scap, hyv, H⟩ := fr.get hy
    obtain ⟨sb, so, rfl, H2⟩ := H hne
    obtain ⟨m1, m2, d12, rfl, ho, s2⟩ := sel.one.1 st
    have hyl : 0 < ys.length := List.length_pos_iff.2 hne
    rcases ho with ⟨rfl, rfl, rfl⟩ | ⟨b, cap, cur, rfl, rfl, hl, hm, hcs, r⟩
    · have hn : n + ys.length ≤ 0 := hn
      omega
    · have hb := sp.heap_own
      have hk : rU8.k = 1 := rfl
      rw [hk, Nat.mul_one] at hcs
      rw [hk, Nat.mul_one] at r
      have r := relAll_u8.1 r
      have hcn : ¬ cap = n := by omega
      have hv : a.eval x = .slice (some ⟨b, n, none⟩) (xs.length - n) (cap - n) := by rw [hv]; simp [tailAt, hcn]
      have hsrc : ∀ (j : Nat) u, (ys.map (Value.int .u8 ·))[j]? = some u → w.cell? ((⟨sb, so, none⟩ : Addr).add j) = some u := fun j u hj => by
        simp only [List.getElem?_map, Option.map_eq_some_iff] at hj
        obtain ⟨z, hz, rfl⟩ := hj
        obtain ⟨cs, Hc, hr⟩ := H2 j z hz
        have hr : cs = [.int .u8 z] := hr
        subst hr
        rw [addr_add]
        have := Hc.cell sp.hw (i := 0) (v := .int .u8 z) rfl
        simpa [hk] using this
      have hrun := run_copy_row (P := C.P) w T U ty e b n (xs.length - n) (cap - n) ⟨sb, so, none⟩ ys.length scap cur e (ys.map (Value.int .u8 ·)) hu hs hb (by rw [List.length_map]; exact (Nat.min_eq_left (by omega)).symm) hsrc (by simp; omega) (by intro u hu; obtain ⟨z, _, rfl⟩ := List.mem_map.1 hu; rfl)
      refine ⟨(), .int .i64 ys.length, w.setRow b (cur.toList.take n ++ ys.map (Value.int .u8 ·) ++ cur.toList.drop (n + ys.length)).toArray, h, (PH.one b (.cells (cur.toList.take n ++ ys.map (Value.int .u8 ·) ++ cur.toList.drop (n + ys.length)).toArray e (0, 0))).join m2, ?_, HL.same ⟨rfl, rfl, rfl⟩, Sep.write d12 sp (fun b' hne' _ => setRow_other w b b' _ hne') (setRow_heap w b cur _ e _ hb), ?_, rfl⟩
      · simp only [List.length_map] at hrun
        simp [execOp, resolve, invoke, builtin, hv, hyv, hrun, goInt]
      · refine ⟨_, m2, PH.one_disj_iff.2 (PH.one_disj_iff.1 d12), rfl, .inr ⟨b, cap, _, ?_, rfl, ?_, hm, ?_, ?_⟩, s2⟩
        · have : (xs.take n ++ ys ++ xs.drop (n + ys.length)).length = xs.length := by simp; omega
          rw [this]
        · simp; omega
        · simp [hk]; omega
        · rw [hk, Nat.mul_one]
          refine relAll_u8.2 ?_
          have hl2 : (xs.take n ++ ys ++ xs.drop (n + ys.length)).length = xs.length := by simp; omega
          rw [hl2]
          have := list_take_splice cur.toList (ys.map (Value.int .u8 ·)) n ys.length xs.length hn (by simp; omega) (by simp)
          rw [List.toList_toArray, this, r]
          simp [List.map_take, List.map_drop]
end
open Go Go.Proofs Go.Proofs.Tryz
abbrev kvT (t : GTri) : Value := .agg #[.int .i64 t.a, .int .i64 t.b, .int .i64 t.c]
abbrev kvK (k : Gkey) : Value := .agg #[.int .i64 k.pair, .string k.texts]
instance : DecidableEq Gkey := fun a b => decidable_of_iff (a.pair = b.pair ∧ a.texts = b.texts) ⟨fun ⟨h1, h2⟩ => by cases a; cases b; simp_all, fun h => by subst h; exact ⟨rfl, rfl⟩⟩
theorem Sub.tri {p : GTri} : Sub (rTri.ty p) (tV (kvT p)) := fun h v r => by
  obtain ⟨cs, r, rfl⟩ := r
  obtain ⟨c0, _, rfl, r0, c1, _, rfl, r1, c2, _, rfl, r2, rz⟩ := r
  have r0 : c0 = [.int .i64 p.a] := r0
  have r1 : c1 = [.int .i64 p.b] := r1
  have r2 : c2 = [.int .i64 p.c] := r2
  subst r0 r1 r2; rw [show _ = [] from rz]; rfl
theorem Sub.tri' {p : GTri} : Sub (tV (kvT p)) (rTri.ty p) := fun h v e => by
  have e : v = kvT p := e
  subst e
  exact ⟨_, ⟨[Value.int .i64 p.a], _, _root_.rfl, _root_.rfl, ⟨[Value.int .i64 p.b], _, _root_.rfl, _root_.rfl, ⟨[Value.int .i64 p.c], _, _root_.rfl, _root_.rfl, _root_.rfl⟩⟩⟩, _root_.rfl⟩
theorem Sub.key {p : Gkey} : Sub (rkey.ty p) (tV (kvK p)) := fun h v r => by
  obtain ⟨cs, r, rfl⟩ := r
  obtain ⟨c0, _, rfl, r0, c1, _, rfl, r1, rz⟩ := r
  have r0 : c0 = [.int .i64 p.pair] := r0
  have r1 : c1 = [.string p.texts] := r1
  subst r0 r1; rw [show _ = [] from rz]; rfl
theorem toLs_eq (a b : ByteArray) : (a.toList == b.toList) = decide (a = b) := by
  rw [← beq_toListBytes]
  obtain ⟨⟨x⟩⟩ := a
  obtain ⟨⟨y⟩⟩ := b
  show ((⟨x⟩ : Array UInt8) == ⟨y⟩) = _
  rw [Bool.eq_iff_iff]; simp
theorem eq_key (a b : Gkey) (w : World) : (Op.equal 95 (kvK a) (kvK b)).run Tryz.prog w = .ok (decide (a = b)) w := by
  have u3 := Tryz.underlying3
  have u9 := Tryz.underlying9
  have a3 := Tryz.isAgg3
  have a9 := Tryz.isAgg9
  have z3 := Tryz.sizeOf3
  have z9 := Tryz.sizeOf9
  have hS : Tryz.prog.underlying 95 = some (.struct (Tryz.prog.fieldsOf 95)) := by kernel_rfl
  have hp : Tryz.prog.stoodInHeld 95 = false := by kernel_rfl
  simp only [Op.equal, Op.maxDepth]
  rw [show (10000 : Nat) = 9999 + 1 from rfl, run_equalIn_agg w 9999 95 _ _ hS hp]
  simp only [Program.fieldsOf, Tryz.underlying95]
  go_simp
  have e : decide (a = b) = (decide (a.pair = b.pair) && decide (a.texts = b.texts)) := by
    rw [Bool.eq_iff_iff]; simp
    constructor
    · intro h; subst h; exact ⟨rfl, rfl⟩
    · rintro ⟨h1, h2⟩; cases a; cases b; simp_all
  have e2 : (a.texts.toList = b.texts.toList) ↔ a.texts = b.texts := by
    have := toLs_eq a.texts b.texts
    rw [Bool.eq_iff_iff] at this
    simpa using this
  rw [e]
  by_cases h1 : a.pair = b.pair <;> by_cases h2 : a.texts = b.texts <;> simp [h1, h2, e2]
theorem keyK : KeyT Tryz.prog 95 kvK where
  chk := fun b a w => by
    have u3 := Tryz.underlying3
    have u9 := Tryz.underlying9
    have a3 := Tryz.isAgg3
    have a9 := Tryz.isAgg9
    have z3 := Tryz.sizeOf3
    have z9 := Tryz.sizeOf9
    have h3 : ∀ (n : Nat) (x : Int) (w : World), (Instr.checkKey b (n + 1) 3 (.int .i64 x)).run Tryz.prog w = .ok () w := fun n x w => by simp [Instr.checkKey, run_underlying u3]
    have h9 : ∀ (n : Nat) (x : ByteArray) (w : World), (Instr.checkKey b (n + 1) 9 (.string x)).run Tryz.prog w = .ok () w := fun n x w => by simp [Instr.checkKey, run_underlying u9]
    have key : ∀ n, (Instr.checkKey b (n + 1 + 1) 95 (kvK a)).run Tryz.prog w = .ok () w := fun n => by
      rw [Instr.checkKey]
      simp only [Sem.run_bind, run_underlying Tryz.underlying95, Result.andThen_ok]
      rw [← Array.forIn_toList]
      simp [part, Sem.run_bind, a3, a9, z3, z9, h3, h9]
    exact key 9998
  find := find_asking Tryz.underlying95 (fun a b => rfl) eq_key
  bits := fun a => by
    have e : (a.texts == a.texts) = true := by rw [beq_toListBytes]; simp
    show Instr.sameBits (9999 + 1) _ _ = true
    simp [Instr.sameBits, e]
section
variable {T : TypeId} (hu : Tryz.prog.underlying T = some (.array 3 3))
include hu
theorem eq_tri (a b : GTri) (w : World) : (Op.equal T (kvT a) (kvT b)).run Tryz.prog w = .ok (decide (a = b)) w := by
  have u3 := Tryz.underlying3
  have a3 := Tryz.isAgg3
  have z3 := Tryz.sizeOf3
  obtain ⟨i, hi, _⟩ := info_of_size (P := Tryz.prog) (T := 3) (k := 1) (fun w => z3 w)
  have hc : Tryz.prog.cellsOf 3 = 1 := by kernel_rfl
  have hq : ∀ (n : Nat) (x y : Int) (w : World), (Op.equalIn (n + 1) 3 (.int .i64 x) (.int .i64 y)).run Tryz.prog w = .ok (x == y) w := fun n x y w => run_equalIn_int w n 3 .i64 .i64 x y u3
  have key : ∀ n, (Op.equalIn (n + 1 + 1) T (kvT a) (kvT b)).run Tryz.prog w = .ok (decide (a = b)) w := fun n => by
    rw [run_equalIn_array w (n + 1) _ _ hu hi, hc]
    have e : decide (a = b) = (decide (a.a = b.a) && (decide (a.b = b.b) && decide (a.c = b.c))) := by
      rw [Bool.eq_iff_iff]; simp
      constructor
      · intro h; subst h; exact ⟨rfl, rfl, rfl⟩
      · rintro ⟨h1, h2, h3⟩; cases a; cases b; simp_all
    rw [e]
    have hr : List.range 3 = [0, 1, 2] := rfl
    rw [hr]
    by_cases h1 : a.a = b.a <;> by_cases h2 : a.b = b.b <;> by_cases h3 : a.c = b.c <;> simp [Op.eqItems, Sem.run_bind, part, a3, hq, h1, h2, h3]
  exact key 9998
theorem keyT3 : KeyT Tryz.prog T kvT where
  chk := fun b a w => by
    have u3 := Tryz.underlying3
    have a3 := Tryz.isAgg3
    have z3 := Tryz.sizeOf3
    have h3 : ∀ (n : Nat) (x : Int) (w : World), (Instr.checkKey b (n + 1) 3 (.int .i64 x)).run Tryz.prog w = .ok () w := fun n x w => by simp [Instr.checkKey, run_underlying u3]
    have key : ∀ n, (Instr.checkKey b (n + 1 + 1) T (kvT a)).run Tryz.prog w = .ok () w := fun n => by
      rw [Instr.checkKey]
      simp only [Sem.run_bind, run_underlying hu, Result.andThen_ok]
      simp only [Std.Legacy.Range.forIn_eq_forIn_range', Std.Legacy.Range.size, Nat.sub_zero, Nat.add_one_sub_one, Nat.div_one]
      have hr : List.range' 0 (3 + 0) = [0, 1, 2] := rfl
      simp only [hr, show List.range' 0 3 = [0, 1, 2] from rfl, show List.range' 0 3 1 = [0, 1, 2] from rfl]
      simp [part, Sem.run_bind, a3, z3, h3]
    exact key 9998
  find := find_asking hu (fun a b => rfl) (eq_tri hu)
  bits := fun a => by
    show Instr.sameBits (9999 + 1) _ _ = true
    simp [Instr.sameBits]
end
theorem key77 : KeyT Tryz.prog 77 kvT := keyT3 Tryz.underlying77
theorem key71 : KeyT Tryz.prog 71 kvT := keyT3 Tryz.underlying71
section
variable {C : Cx} {E : Env} {L : List SP} {d : Option Nat} {ty : Nat} {pos : String} {af : Array Edge} {g : Option (Nat × Bool)}
theorem step_eqlptr {T U : Nat} {x : Operand} {p : Option Addr} (hu : C.P.underlying T = some (.pointer (C.P.pointee T))) (hx : Sub (opTy E x) (tV (.pointer p))) :
    Step1 C ⟨d, .binOp .eql T x (.const (.pointer none)) U, ty, pos, af, g⟩ E L (tV (.bool p.isNone)) :=
  Step.of_same (by intro c h; cases h) fun a w h hw fr => by
    have h1 : a.eval x = .pointer p := fr.get hx
    have h2 : a.eval (.const (.pointer none)) = .pointer none := rfl
    have he : ∀ w, (eqGuard .eql T x (.const (.pointer none)) (.pointer p) (.pointer none)).run C.P w = .ok () w := by intro w; simp [eqGuard]
    exact ⟨_, by simp [execOp, h1, h2, Sem.run_bind, he, run_eql_pointer_nil w T p hu], rfl⟩
end
/-! ### Values held by a map: what is behind each of them -/
section
variable {κ γ : Type} [DecidableEq κ] (F : Value → γ → SP) (dv : Value) (dg : γ)
abbrev HeldL (κ γ : Type) := List (κ × Value × γ)
def heldO (q : HeldL κ γ) : SP := stars (q.map fun t => F t.2.1 t.2.2)
def hval (q : HeldL κ γ) (k : κ) : Value × γ := match q with
  | [] => (dv, dg)
  | (a, v, xs) :: q => if k = a then (v, xs) else hval q k
def hrem (q : HeldL κ γ) (k : κ) : HeldL κ γ := match q with
  | [] => []
  | (a, v, xs) :: q => if k = a then q else (a, v, xs) :: hrem q k
def hput (q : HeldL κ γ) (k : κ) (v : Value) (xs : γ) : HeldL κ γ := match q with
  | [] => [(k, v, xs)]
  | (a, v0, x0) :: q => if k = a then (a, v, xs) :: q else (a, v0, x0) :: hput q k v xs
abbrev hvals (q : HeldL κ γ) : List (κ × Value) := q.map fun t => (t.1, t.2.1)
end
section
variable {κ γ : Type} [DecidableEq κ] {F : Value → γ → SP} {dv : Value} {dg : γ} {L : List SP}
theorem hvals_get (k : κ) : ∀ q : HeldL κ γ, (mget (hvals q) k).getD dv = (hval dv dg q k).1
  | [] => rfl
  | (a, v, xs) :: q => by
    by_cases h : k = a
    · simp [mget, hval, h]
    · simp only [List.map_cons, mget, hval, if_neg h]; exact hvals_get k q
theorem hvals_put (k : κ) (v : Value) (ys : γ) : ∀ q : HeldL κ γ, mput (hvals q) k v = hvals (hput q k v ys)
  | [] => rfl
  | (a, v0, x0) :: q => by
    by_cases h : k = a
    · simp [mput, hput, h]
    · simp only [List.map_cons, mput, hput, if_neg h]; rw [hvals_put k v ys q]
theorem hval_hput (k j : κ) (v : Value) (ys : γ) : ∀ q : HeldL κ γ, hval dv dg (hput q k v ys) j = if j = k then (v, ys) else hval dv dg q j
  | [] => by by_cases h : j = k <;> simp [hput, hval, h]
  | (a, v0, x0) :: q => by
    by_cases h : k = a
    · subst h
      by_cases h2 : j = k <;> simp [hput, hval, h2]
    · by_cases h2 : j = a
      · subst h2
        have : ¬ j = k := fun e => h e.symm
        simp [hput, hval, h, this]
      · simp only [hput, if_neg h, hval, if_neg h2]; exact hval_hput k j v ys q
theorem hput_vals_same {k : κ} {v : Value} {ys : γ} : ∀ {q : HeldL κ γ}, (hval dv dg q k).1 = v → (mget (hvals q) k).isSome → hvals (hput q k v ys) = hvals q
  | [], _, h => by simp [mget] at h
  | (a, v0, x0) :: q, e, h => by
    by_cases hk : k = a
    · simp only [hval, if_pos hk] at e; subst e; simp [hput, hk]
    · simp only [hval, if_neg hk] at e
      simp only [List.map_cons, mget, if_neg hk] at h
      simp only [hput, if_neg hk, List.map_cons]
      exact congrArg (List.cons _) (hput_vals_same e h)
theorem LSub.hd {A : SP} {L L' : List SP} (h : LSub L L') : LSub (A :: L) (A :: L') := LSub.cons (Sel.take (Sel.none _)) SPs.rfl h
theorem LSub.sw {A B : SP} {L : List SP} : LSub (A :: B :: L) (B :: A :: L) := LSub.cons (Sel.skip (Sel.take (Sel.none _))) SPs.rfl (LSub.cons (Sel.take (Sel.none _)) SPs.rfl LSub.rfl)
theorem LSub.popS {A : SP} {B L : List SP} : LSub (Lg.stars (A :: B) :: L) (A :: Lg.stars B :: L) := fun h m ⟨m1, m2, d, e, ⟨m3, m4, d3, e3, ha, hb⟩, hl⟩ => by
  subst e; subst e3
  have dd := PH.disj_join.1 d
  exact ⟨m3, m4.join m2, PH.disj_join'.2 ⟨d3, dd.1⟩, PH.join_assoc _ _ _, ha, m4, m2, dd.2, _root_.rfl, hb, hl⟩
theorem held_split (hn : ∀ L, LSub L (F dv dg :: L)) (k : κ) : ∀ {q : HeldL κ γ} {L : List SP}, LSub (heldO F q :: L) (F (hval dv dg q k).1 (hval dv dg q k).2 :: heldO F (hrem q k) :: L)
  | [], L => hn _
  | (a, v, xs) :: q, L => by
    by_cases h : k = a
    · simp only [hval, hrem, if_pos h]; exact LSub.popS
    · simp only [hval, hrem, if_neg h]
      exact LSub.trans LSub.popS (LSub.trans (LSub.hd (held_split hn k)) (LSub.trans LSub.sw (LSub.hd LSub.push)))
theorem held_join (k : κ) (v : Value) (ys : γ) : ∀ {q : HeldL κ γ} {L : List SP}, LSub (F v ys :: heldO F (hrem q k) :: L) (heldO F (hput q k v ys) :: L)
  | [], L => LSub.push
  | (a, v0, x0) :: q, L => by
    by_cases h : k = a
    · simp only [hput, hrem, if_pos h]; exact LSub.push
    · simp only [hput, hrem, if_neg h]
      exact LSub.trans (LSub.hd LSub.popS) (LSub.trans LSub.sw (LSub.trans (LSub.hd (held_join k v ys)) LSub.push))
theorem held_back (hn : ∀ L, LSub (F dv dg :: L) L) (k : κ) : ∀ {q : HeldL κ γ} {L : List SP}, LSub (F (hval dv dg q k).1 (hval dv dg q k).2 :: heldO F (hrem q k) :: L) (heldO F q :: L)
  | [], L => hn _
  | (a, v, xs) :: q, L => by
    by_cases h : k = a
    · simp only [hval, hrem, if_pos h]; exact LSub.push
    · simp only [hval, hrem, if_neg h]
      exact LSub.trans (LSub.hd LSub.popS) (LSub.trans LSub.sw (LSub.trans (LSub.hd (held_back hn k)) LSub.push))
theorem held_nil {L : List SP} : LSub L (heldO F ([] : HeldL κ γ) :: L) := fun h m p => ⟨PH.emp, m, PH.disj_symm (PH.disj_emp _), (PH.emp_join _).symm, _root_.rfl, p⟩
end
/-! ### Sets of numbers held by a map -/
abbrev setO (v : Value) (xs : List (Int × Bool)) : SP := mapD kvI rBool v xs
abbrev SetL (κ : Type) := HeldL κ (List (Int × Bool))
abbrev setsO {κ : Type} (q : SetL κ) : SP := heldO setO q
abbrev sval {κ : Type} [DecidableEq κ] (q : SetL κ) (k : κ) : Value × List (Int × Bool) := hval (.map none) [] q k
theorem sets_split {κ : Type} [DecidableEq κ] (k : κ) {q : SetL κ} {L : List SP} : LSub (setsO q :: L) (setO (sval q k).1 (sval q k).2 :: setsO (hrem q k) :: L) := held_split (fun _ => mapD.nil) k
theorem sets_back {κ : Type} [DecidableEq κ] (k : κ) {q : SetL κ} {L : List SP} : LSub (setO (sval q k).1 (sval q k).2 :: setsO (hrem q k) :: L) (setsO q :: L) := held_back (fun _ => mapD.unnil) k
theorem step_lookupS {κ : Type} [DecidableEq κ] {kv : κ → Value} {C : Cx} {E : Env} {L : List SP} {d : Option Nat} {ty : Nat} {pos : String} {af : Array Edge} {g : Option (Nat × Bool)} {T kt el : Nat} {x y : Operand} {v : Value} {q : SetL κ} {S : List SP} {k : κ}
    (K : KeyT C.P kt kv) (hu : C.P.underlying T = some (.map kt el)) (hz : ∀ w, (zeroValue el).run C.P w = .ok (.map none) w)
    (hx : Sub (opTy E x) (tV v)) (hy : Sub (opTy E y) (tV (kv k))) (sel : Sel L [mapD kv rV v (hvals q)] S) : Step1 C ⟨d, .lookup T x y false, ty, pos, af, g⟩ E L (tV (sval q k).1) := by
  have := step_lookupD (C := C) (d := d) (ty := ty) (pos := pos) (af := af) (g := g) (R := rV) (z := .map none) K hu hz (fun _ => ⟨rfl, rfl⟩) hx hy mapD.view sel
  rw [hvals_get (dg := [])] at this
  exact fun a w h m n l sp st fr next Q hk => this a w h m n l sp st fr next Q (fun x v w' h' m' l' sp' st' hv => hk x v w' h' m' l' sp' st' (Sub.ofRV _ _ hv))
/-! ### Arrays -/
section
variable {ro : Option Nat} {N : Nat} {ds : List Deferred} {h0 : PH} {w0 : World} {r : PH} {E : Env} {L : List SP} {d : Option Nat} {ty : Nat} {pos : String} {af : Array Edge} {g : Option (Nat × Bool)}
theorem step_build_tri {T : Nat} (hu : Tryz.prog.underlying T = some (.array 3 3)) (hz : ∀ w, (zeroValue T).run Tryz.prog w = .ok (.agg #[.int .i64 0, .int .i64 0, .int .i64 0]) w) {x y z : Operand} {a b c : Int} (hx : Sub (opTy E x) (tV (.int .i64 a))) (hy : Sub (opTy E y) (tV (.int .i64 b))) (hz' : Sub (opTy E z) (tV (.int .i64 c))) :
    Step1 ⟨Tryz.prog, ro, N, ds, h0, w0, r⟩ ⟨d, .build T #[(0, x), (1, y), (2, z)], ty, pos, af, g⟩ E L (rTri.ty ⟨a, b, c⟩) :=
  Step.of_same (by intro c h; cases h) fun ac w h hw f => by
    have h1 : ac.eval x = .int .i64 a := f.get hx
    have h2 : ac.eval y = .int .i64 b := f.get hy
    have h3 : ac.eval z = .int .i64 c := f.get hz'
    have hb : ∀ w, (Instr.build T #[(0, .int .i64 a), (1, .int .i64 b), (2, .int .i64 c)]).run Tryz.prog w = .ok (.agg #[.int .i64 a, .int .i64 b, .int .i64 c]) w := fun w => by
      simp [Instr.build, Sem.run_bind, run_underlying hu, hz, Tryz.sizeOf3, Instr.fill, Value.cells]
    refine ⟨.agg #[.int .i64 a, .int .i64 b, .int .i64 c], ?_, Sub.tri' (p := ⟨a, b, c⟩) _ _ rfl⟩
    simp [execOp, h1, h2, h3, hb]
theorem step_build_two {x y : Operand} {a b : Int} (hx : Sub (opTy E x) (tV (.int .i64 a))) (hy : Sub (opTy E y) (tV (.int .i64 b))) :
    Step1 ⟨Tryz.prog, ro, N, ds, h0, w0, r⟩ ⟨d, .build 111 #[(0, x), (1, y)], ty, pos, af, g⟩ E L (rA2.ty (a, b)) :=
  Step.of_same (by intro c h; cases h) fun ac w h hw f => by
    have h1 : ac.eval x = .int .i64 a := f.get hx
    have h2 : ac.eval y = .int .i64 b := f.get hy
    have hb : ∀ w, (Instr.build 111 #[(0, .int .i64 a), (1, .int .i64 b)]).run Tryz.prog w = .ok (.agg #[.int .i64 a, .int .i64 b]) w := fun w => by
      simp [Instr.build, Sem.run_bind, run_underlying Tryz.underlying111, Tryz.zeroValue111, Tryz.sizeOf3, Instr.fill, Value.cells]
    refine ⟨.agg #[.int .i64 a, .int .i64 b], ?_, ⟨_, ⟨[Value.int .i64 a], _, rfl, rfl, ⟨[Value.int .i64 b], _, rfl, rfl, rfl⟩⟩, rfl⟩⟩
    simp [execOp, h1, h2, hb]
def GTri.l (t : GTri) : List Int := [t.a, t.b, t.c]
/-- An element of an array's value. -/
theorem step_index_tri {T n : Nat} (hu : Tryz.prog.underlying T = some (.array 3 3)) {x y : Operand} {t : GTri} {i : Int} (hx : Sub (opTy E x) (rTri.ty t)) (hy : Sub (opTy E y) (tV (.int .i64 i))) (hi : i = n) (hn : n < 3) :
    Step1 ⟨Tryz.prog, ro, N, ds, h0, w0, r⟩ ⟨d, .index T x y, ty, pos, af, g⟩ E L (tV (.int .i64 (nth t.l n))) :=
  Step.of_same (by intro c h; cases h) fun ac w h hw f => by
    have h1 : ac.eval x = kvT t := f.get (Sub.trans hx Sub.tri)
    have h2 : ac.eval y = .int .i64 i := f.get hy
    subst hi
    have a3 := Tryz.isAgg3
    have z3 := Tryz.sizeOf3
    refine ⟨.int .i64 (nth t.l n), ?_, rfl⟩
    match n, hn with
    | 0, _ => simp [execOp, Instr.index, h1, h2, asIntOf, run_underlying hu, part, a3, z3, Sem.run_bind]; rfl
    | 1, _ => simp [execOp, Instr.index, h1, h2, asIntOf, run_underlying hu, part, a3, z3, Sem.run_bind]; rfl
    | 2, _ => simp [execOp, Instr.index, h1, h2, asIntOf, run_underlying hu, part, a3, z3, Sem.run_bind]; rfl
/-- The address of an element of an array of two that is immutable. -/
theorem step_arrAddr2 {x y : Operand} {p : Int × Int} {i : Int} (n : Nat) {f : SF (Int × Int)} (hx : Sub (opTy E x) (tPtr rA2 p)) (hy : Sub (opTy E y) (tV (.int .i64 i))) (hi : i = (n : Int)) (hf : fsA2[n]? = some f) :
    Step1 ⟨Tryz.prog, ro, N, ds, h0, w0, r⟩ ⟨d, .indexAddr 111 x y, ty, pos, af, g⟩ E L (tPtr f.R (f.get p)) :=
  Step.of_same (by intro c h; cases h) fun ac w h hw fr => by
    obtain ⟨b, off, cs, hv, H, q⟩ := fr.get hx
    have h2 : ac.eval y = .int .i64 i := fr.get hy
    subst hi
    obtain ⟨c, rc, hc⟩ := SF.rel_field q hf
    have hlt : n < 2 := by
      have := (List.getElem?_eq_some_iff.1 hf).1
      simpa [fsA2] using this
    have hoff : SF.off fsA2 n = n := by
      match n, hlt with
      | 0, _ => rfl
      | 1, _ => rfl
    refine ⟨.pointer (some ⟨b, off + n, none⟩), ?_, b, off + n, c, rfl, ?_, rc⟩
    · have hx2 : ac.eval x = .pointer (some ⟨b, off, none⟩) := hv
      have z3 := Tryz.sizeOf3
      simp [execOp, Instr.indexAt, hx2, h2, asIntOf, run_underlying Tryz.underlying111, Instr.sureAddr, hlt, Sem.run_bind, z3, Addr.add]
    · obtain ⟨cc, e, fz, hb, hcs⟩ := H
      refine ⟨cc, e, fz, hb, fun j u hu => ?_⟩
      have := hc j u hu
      rw [hoff] at this
      have h3 := hcs _ _ this
      rw [← h3]; congr 1; omega
/-- All of an array that is immutable, as a slice. -/
theorem step_slice_tri {T : Nat} (hu : Tryz.prog.underlying T = some (.array 3 3)) {x : Operand} {t : GTri} (hx : Sub (opTy E x) (tPtr rTri t)) :
    Step1 ⟨Tryz.prog, ro, N, ds, h0, w0, r⟩ ⟨d, .slice T x none none none, ty, pos, af, g⟩ E L (tSl rInt t.l) :=
  Step.of_same (by intro c h; cases h) fun ac w h hw fr => by
    obtain ⟨b, off, cs, hv, H, q⟩ := fr.get hx
    have z3 := Tryz.sizeOf3
    obtain ⟨c0, _, rfl, r0, c1, _, rfl, r1, c2, _, rfl, r2, rz⟩ := q
    have r0 : c0 = [.int .i64 t.a] := r0
    have r1 : c1 = [.int .i64 t.b] := r1
    have r2 : c2 = [.int .i64 t.c] := r2
    subst r0 r1 r2
    obtain ⟨cc, e, fz, hb, hcs⟩ := H
    have k0 := hcs 0 _ rfl
    have k1 := hcs 1 _ rfl
    have k2 := hcs 2 _ rfl
    have one : ∀ (o : Nat) (z : Int), cc[o]? = some (.int .i64 z) → Holds h b o [.int .i64 z] := fun o z hz => ⟨cc, e, fz, hb, fun j u hu => by
      match j, hu with
      | 0, hu => simp at hu; subst hu; simpa using hz⟩
    refine ⟨.slice (some ⟨b, off, none⟩) 3 3, ?_, some ⟨b, off, none⟩, ⟨3, Nat.le_refl 3⟩, rfl, fun _ => ⟨b, off, rfl, fun i y hy => ?_⟩⟩
    · have hx2 : ac.eval x = .pointer (some ⟨b, off, none⟩) := hv
      simp [execOp, Instr.sliceAt, hx2, run_underlying hu, Instr.sureAddr, Instr.sliceBounds, Sem.run_bind, z3, Addr.add]
    · match i, hy with
      | 0, hy => cases hy; exact ⟨[.int .i64 t.a], one _ _ (by simpa using k0), rfl⟩
      | 1, hy => cases hy; exact ⟨[.int .i64 t.b], one _ _ (by simpa [show rInt.k = 1 from rfl] using k1), rfl⟩
      | 2, hy => cases hy; exact ⟨[.int .i64 t.c], one _ _ (by simpa [show rInt.k = 1 from rfl] using k2), rfl⟩
end
open Go Go.Proofs Go.Proofs.Tryz
def sdV (s : GSide) (fs : List GFact) : GValue × Bool :=
  if s.Var = -1 then (s.Value, true)
  else if ((s.Var < 0 ∨ (fs.length : Int) ≤ s.Var) ∨ s.Col < 0) ∨ ((nth fs s.Var.toNat).Row.length : Int) ≤ s.Col then (zValue, false)
  else (nth (nth fs s.Var.toNat).Row s.Col.toNat, true)
def tstV (fs : List GFact) (t : GTest) : Bool := ((sdV t.Left fs).2 && (sdV t.Right fs).2) && testV (sdV t.Left fs).1 t.Op (sdV t.Right fs).1 t.Add
def tabV (d : GRule) (fs : List GFact) : Bool := (List.range fs.length).all fun i => decide ((nth fs i).Table = nth d.Tables i)
def violV (d : GRule) (fs : List GFact) : Bool := tabV d fs && d.Tests.all (tstV fs)
theorem any_range_stopV {n i : Nat} {p : Nat → Bool} (hi : i < n) (hp : p i = false) : ((List.range n).all p) = false := by
  rw [← Bool.not_eq_true, List.all_eq_true]
  intro h
  rw [h i (List.mem_range.2 hi)] at hp; cases hp
theorem all_dropV {α : Type} [Inhabited α] (p : α → Bool) {l : List α} {i : Nat} (hi : i < l.length) (hp : p (nth l i) = false) : l.all p = false := by
  rw [← Bool.not_eq_true, List.all_eq_true]
  intro h
  rw [h _ (nth_mem hi)] at hp; cases hp
theorem mem_nthV {α : Type} [Inhabited α] {l : List α} {x : α} (h : x ∈ l) : ∃ q, q < l.length ∧ nth l q = x := by
  obtain ⟨i, hi⟩ := List.getElem?_of_mem h
  have hl := (List.getElem?_eq_some_iff.1 hi).1
  refine ⟨i, hl, ?_⟩
  rw [nth_get hl]; exact (List.getElem?_eq_some_iff.1 hi).2
/-- The columns that a test wants to be equal. -/
def eqT (i j : Int) (t : GTest) : List (Int × Int) :=
  if t.Op ≠ 1 ∨ t.Add ≠ 0 then []
  else if t.Left.Var = i ∧ t.Right.Var = j then [(t.Left.Col, t.Right.Col)]
  else if t.Left.Var = j ∧ t.Right.Var = i then [(t.Right.Col, t.Left.Col)]
  else []
def eqsV (d : GRule) (i j : Int) : List (Int × Int) := d.Tests.flatMap (eqT i j)
def eqsK (d : GRule) (i j : Int) (k : Nat) : List (Int × Int) := (d.Tests.take k).flatMap (eqT i j)
theorem takeV {α : Type} [Inhabited α] {l : List α} {j : Nat} (h : j < l.length) : l.take (j + 1) = l.take j ++ [nth l j] := by
  rw [nth_get h]; simp
theorem eqsK_succ {d : GRule} {i j : Int} {k : Nat} (h : k < d.Tests.length) : eqsK d i j (k + 1) = eqsK d i j k ++ eqT i j (nth d.Tests k) := by rw [eqsK, takeV h]; simp [eqsK]
theorem eqT_len (i j : Int) (t : GTest) : (eqT i j t).length ≤ 1 := by unfold eqT; (repeat' split) <;> simp
theorem eqsK_len (d : GRule) (i j : Int) : ∀ k, (eqsK d i j k).length ≤ k
  | 0 => by simp [eqsK]
  | k + 1 => by
    have ih := eqsK_len d i j k
    by_cases h : k < d.Tests.length
    · rw [eqsK_succ h]; have := eqT_len i j (nth d.Tests k); simp only [List.length_append]; omega
    · have : eqsK d i j (k + 1) = eqsK d i j k := by unfold eqsK; rw [List.take_of_length_le (by omega), List.take_of_length_le (by omega)]
      rw [this]; omega
theorem sdv_spec (s : GSide) (fs : List GFact) : Fun1 prog 93 [rSide.ty s, tSl rFact fs] (tTup [rValue.ty (sdV s fs).1, tV (.bool (sdV s fs).2)]) := by
 refine Spec.enter func93 rfl rfl fun h0 w0 fr0 => ?_
 refine Jr (Js rfl (step_box (R := rSide) Sr) ?_)
 refine Jx rfl (step_alloc (fun w => zeroValue91 w) zr91) fun v4 => ?_
 refine Ja rfl (JL_nil (J_seq (Jr (Js rfl (step_fieldAddr so105 Sr rfl) (Jl rfl ty3 Sr ?_)))))
 refine Js rfl (step_eql Sr Sr) (JL_nil ?_)
 refine J_cond Sr (fun h8 => ?_) (fun h8 => ?_)
 ·
  try simp only [NF] at h8
  refine Jr (Js rfl (step_fieldAddr so105 Sr rfl) (Jl rfl ty91 Sr ?_))
  refine Ju (step_store_box ty91 Sr Sr zS) fun _ => ?_
  refine Ja rfl (JL_nil (J_ret ?_))
  refine K_ret2' (rv := .cell 4 91) (rv' := .tmp 5) rfl () (Sel.all _) (.cell ty91 Sr zS Sr) (.tmp Sr) (Frz.sub ?_) (Frz.sub ?_) Sr
  ·
   rw [sdV, if_pos h8]; exact Sr
  rw [sdV, if_pos h8]; exact Sr
 try simp only [NF] at h8
 refine J_skip (J_seq (J_seq ?_))
 refine J_draw [⟨0, [2], true⟩, ⟨1, [11], true⟩, ⟨2, [12], true⟩, ⟨3, [13], true⟩, ⟨4, [2, 14], true⟩, ⟨5, [14, 15], true⟩, ⟨6, [1, 14], true⟩, ⟨7, [14, 17], true⟩, ⟨8, [14, 16, 18], true⟩, ⟨9, [14, 19], true⟩, ⟨10, [20], true⟩, ⟨11, [2, 21], true⟩, ⟨12, [21, 22], true⟩, ⟨13, [21, 23], true⟩, ⟨14, [21, 24], true⟩, ⟨15, [25], true⟩, ⟨16, [2, 26], true⟩, ⟨17, [26, 27], true⟩, ⟨18, [1, 26], true⟩, ⟨19, [2, 26], true⟩, ⟨20, [26, 30], true⟩, ⟨21, [26, 29, 31], true⟩, ⟨22, [26, 32], true⟩, ⟨23, [26, 33], true⟩, ⟨24, [26, 34], true⟩, ⟨25, [26, 28, 35], true⟩, ⟨26, [26, 36], true⟩] rfl (by kernel_rfl) ?_
 refine Mf rfl rfl (step_fieldAddr so105 Sr rfl) (Mf rfl rfl (step_load_ptr ty3 Sr) (Mf rfl rfl (step_lss Sr Sr) (Mv rfl rfl ?_)))
 refine Mk rfl rfl Sr rfl (step_fieldAddr so105 Sr rfl) ?_
 refine Mg rfl rfl Sr rfl (fun hw => step_load_ptr ty3 (Sub.w hw)) ?_
 refine Mk rfl rfl Sr rfl (step_move Sr) ?_
 refine Mg rfl rfl Sr rfl (fun hw => step_len_sl underlying41 (Sub.w hw)) (Mg rfl rfl Sr rfl (fun hw => step_geq (Sub.w hw) (Sub.w hw)) (Mf rfl rfl (step_pick_or Sr Sr) (Mv rfl rfl ?_)))
 refine Mk rfl rfl Sr rfl (step_fieldAddr so105 Sr rfl) ?_
 refine Mg rfl rfl Sr rfl (fun hw => step_load_ptr ty3 (Sub.w hw)) (Mg rfl rfl Sr rfl (fun hw => step_lss (Sub.w hw) Sr) (Mf rfl rfl (step_pick_or Sr Sr) (Mv rfl rfl ?_)))
 refine Mk rfl rfl Sr rfl (step_fieldAddr so105 Sr rfl) ?_
 refine Mg rfl rfl Sr rfl (fun hw => step_load_ptr ty3 (Sub.w hw)) ?_
 refine Mk rfl rfl Sr rfl (step_move Sr) ?_
 refine Mk rfl rfl Sr rfl (step_fieldAddr so105 Sr rfl) ?_
 refine Mg rfl rfl Sr rfl (fun hw => step_load_ptr ty3 (Sub.w hw)) ?_
 refine Mg rfl rfl Sr rfl (fun hw => step_indexAddr_sl (i := s.Var.toNat) underlying41 ty35 (Sub.w hw) (Sub.w hw) (by have hwq := hw; (try simp only [beqB_t, beqB_f, NF] at hwq); have hwq := hw; (try simp only [beqB_t, beqB_f, decide_eq_true_eq, decide_eq_false_iff_not, Bool.and_eq_true, Bool.or_eq_true, Bool.or_eq_false_iff] at hwq); show s.Var = _; omega) (gb (by have hwq := hw; (try simp only [beqB_t, beqB_f, NF] at hwq); have hwq := hw; (try simp only [beqB_t, beqB_f, decide_eq_true_eq, decide_eq_false_iff_not, Bool.and_eq_true, Bool.or_eq_true, Bool.or_eq_false_iff] at hwq); omega))) ?_
 refine Mg rfl rfl Sr rfl (fun hw => step_fieldAddr so35 (Sub.w hw) rfl) (Mg rfl rfl Sr rfl (fun hw => step_load_ptr ty32 (Sub.w hw)) (Mg rfl rfl Sr rfl (fun hw => step_len_sl underlying32 (Sub.w hw)) (Mg rfl rfl Sr rfl (fun hw => step_geq (Sub.w hw) (Sub.w hw)) (Mf rfl rfl (step_pick_or Sr Sr) (JM_nil ?_)))))
 refine J_cond Sr (fun h37 => ?_) (fun h37 => ?_)
 ·
  try simp only [NF] at h37
  refine Jr (Js rfl (step_build (x := (zValue : GValue)) (zs := [[Value.int .i64 0], [Value.int .i64 0], [Value.string ⟨#[]⟩]]) so91 (fun w => zeroValue91 w) trivial ⟨fun _ => rfl, fun _ => rfl, fun _ => rfl, trivial⟩) ?_)
  refine Ju (step_store_box ty91 Sr Sr zS) fun _ => ?_
  refine Ja rfl (JL_nil (J_ret ?_))
  refine K_ret2' (rv := .cell 4 91) (rv' := .tmp 5) rfl () (Sel.all _) (.cell ty91 Sr zS Sr) (.tmp Sr) (Frz.sub ?_) (Frz.sub ?_) Sr
  ·
   rw [sdV, if_neg h8, if_pos (by simpa using h37)]; exact Sr
  rw [sdV, if_neg h8, if_pos (by simpa using h37)]; exact Sr
 try simp only [NF] at h37
 have hn3 : ¬ (((s.Var < 0 ∨ (fs.length : Int) ≤ s.Var) ∨ s.Col < 0) ∨ ((nth fs s.Var.toNat).Row.length : Int) ≤ s.Col) := by rintro ((((q | q) | q)) | q) <;> omega
 refine J_skip (J_seq ?_)
 refine J_draw [⟨0, [1], true⟩, ⟨1, [2], true⟩, ⟨2, [40], true⟩, ⟨3, [39, 41], true⟩, ⟨4, [42], true⟩, ⟨5, [43], true⟩, ⟨6, [2], true⟩, ⟨7, [45], true⟩, ⟨8, [44, 46], true⟩, ⟨9, [47], true⟩, ⟨10, [4, 48], false⟩, ⟨11, [], true⟩] rfl (by kernel_rfl) ?_
 refine Mv rfl rfl (Mf rfl rfl (step_fieldAddr so105 Sr rfl) (Mf rfl rfl (step_load_ptr ty3 Sr) ?_))
 refine Mf rfl rfl (step_indexAddr_sl (i := s.Var.toNat) underlying41 ty35 Sr Sr (by show s.Var = _; omega) (gb zG)) ?_
 refine Mf rfl rfl (step_fieldAddr so35 Sr rfl) (Mf rfl rfl (step_load_ptr ty32 Sr) (Mf rfl rfl (step_fieldAddr so105 Sr rfl) (Mf rfl rfl (step_load_ptr ty3 Sr) ?_)))
 refine Mf rfl rfl (step_indexAddr_sl (i := s.Col.toNat) underlying32 ty91 Sr Sr (by show s.Col = _; omega) (gb (by show s.Col.toNat < (nth fs s.Var.toNat).Row.length; omega))) ?_
 refine Mf rfl rfl (step_load_ptr ty91 Sr) ?_
 refine JM_stepU rfl rfl rfl (step_store_box ty91 Sr Sr zS) fun _ => ?_
 refine Mf rfl rfl (step_assign Sr) (JM_nil (J_ret ?_))
 refine K_ret2' (rv := .cell 4 91) (rv' := .tmp 5) rfl () (Sel.all _) (.cell ty91 Sr zS Sr) (.tmp Sr) (Frz.sub ?_) (Frz.sub ?_) Sr
 ·
  rw [sdV, if_neg h8, if_neg hn3]; exact Sr
 rw [sdV, if_neg h8, if_neg hn3]; exact Sr
theorem violV_spec (d : GRule) (fs : List GFact) (hl : fs.length ≤ d.Tables.length) (hal : fs.length ≤ 1000000) (hte : d.Tests.length ≤ 4000000) : Fun1 prog 65 [rRule.ty d, tSl rFact fs] (tV (.bool (violV d fs))) := by
 refine Spec.enter func65 rfl rfl fun h0 w0 fr0 => ?_
 refine Jr (Js rfl (step_box (R := rRule) Sr) (Ja rfl (JL_nil (J_seq (Jr ?_)))))
 refine Jm rfl (Js rfl (step_len_sl underlying41 Sr) (Jm rfl (JL_nil (J_block ?_))))
 refine J_loopL (σ := Nat) (fun i => i ≤ fs.length ∧ ∀ q, q < i → decide ((nth fs q).Table = nth d.Tables q) = true) (fun i => upd (upd (upd (upd (upd env0 1 (tSl rFact fs)) 2 (tPtr rRule d)) 13 (tSl rFact fs)) 14 (tV (.int .i64 fs.length))) 15 (tV (.int .i64 i))) (fun i => []) (fun i => fs.length - i) 0 ⟨by omega, fun q hq => by omega⟩ (zU) (LSub.rfl) ?_
 rintro i ⟨hi, hv⟩
 refine Jr (Js rfl (step_lss Sr Sr) (JL_nil (J_seq ?_)))
 refine J_cond Sr (fun h16 => ?_) (fun h16 => ?_)
 ·
  try simp only [NF] at h16
  have hlt : i < fs.length := by omega
  refine J_skip (J_seq (J_block (Jr (Jm rfl ?_))))
  refine Js rfl (step_indexAddr_sl  underlying41 ty35 Sr Sr rfl (gb (by exact hlt))) ?_
  refine Jl rfl ty35 Sr ?_
  refine Jx rfl (step_alloc (fun w => zeroValue35 w) zr35) fun v6 => ?_
  refine Ja rfl ?_
  refine Ju (step_store_box ty35 Sr Sr zS) fun _ => ?_
  refine JL_freeze (t := 6) (Sel.take (Sel.none _)) Frz.box ?_
  refine JL_nil (J_seq ?_)
  refine J_draw [⟨0, [6], true⟩, ⟨1, [20], true⟩, ⟨2, [2], true⟩, ⟨3, [22], true⟩, ⟨4, [5], true⟩, ⟨5, [23, 24], true⟩, ⟨6, [25], true⟩, ⟨7, [21, 26], true⟩] rfl (by kernel_rfl) ?_
  refine Mf rfl rfl (step_fieldAddr so35 Sr rfl) (Mf rfl rfl (step_load_ptr ty3 Sr) (Mf rfl rfl (step_fieldAddr so59 Sr rfl) (Mf rfl rfl (step_load_ptr ty33 Sr) (Mv rfl rfl ?_))))
  refine Mf rfl rfl (step_indexAddr_sl  underlying33 ty3 Sr Sr rfl (gb (by show i < d.Tables.length; omega))) ?_
  refine Mf rfl rfl (step_load_ptr ty3 Sr) (Mf rfl rfl (step_neq Sr Sr) (JM_nil ?_))
  refine J_cond Sr (fun h27 => ?_) (fun h27 => ?_)
  ·
   try simp only [NF] at h27
   refine Jr (Ja rfl (JL_nil (J_ret ?_)))
   refine K_retv (rv := .tmp 4) rfl () (.tmp Sr) (Sub.bool ?_)
   have hb2 : tabV d fs = false := any_range_stopV hlt (by simpa using h27)
   rw [violV, hb2]; rfl
  try simp only [NF] at h27
  refine J_skip (J_region (Js rfl (step_add Sr Sr z6) (Jm rfl (JL_nil ?_))))
  refine K_againL (σ := Nat) (s := i) (i + 1) zO ?_ (zU) (LSub.rfl)
  refine ⟨by omega, fun q hq => ?_⟩
  by_cases e : q = i
  ·
   subst e; simpa using h27
  exact hv q zG
 try simp only [NF] at h16
 refine J_exit (J_seq (Jr (Js rfl (step_fieldAddr so59 Sr rfl) (Jl rfl ty57 Sr (Js rfl (step_len_sl underlying57 Sr) ?_)))))
 refine Jm rfl (JL_nil (J_block ?_))
 refine J_loopL (σ := Nat) (fun j => j ≤ d.Tests.length ∧ ∀ q, q < j → tstV fs (nth d.Tests q) = true) (fun j => upd (upd (upd (upd env0 1 (tSl rFact fs)) 30 (tSl rTest d.Tests)) 31 (tV (.int .i64 d.Tests.length))) 32 (tV (.int .i64 j))) (fun j => []) (fun j => d.Tests.length - j) 0 ⟨by omega, fun q hq => by omega⟩ (zU) (LSub.rfl) ?_
 rintro j ⟨hj, hw2⟩
 refine Jr (Js rfl (step_lss Sr Sr) (JL_nil (J_seq ?_)))
 refine J_cond Sr (fun h33 => ?_) (fun h33 => ?_)
 ·
  try simp only [NF] at h33
  have hlj : j < d.Tests.length := by omega
  refine J_skip (J_seq (J_block (Jr ?_)))
  refine Js rfl (step_indexAddr_sl  underlying57 ty107 Sr Sr rfl (gb (by show j < d.Tests.length; exact hlj))) ?_
  refine Jl rfl ty107 Sr ?_
  refine Jx rfl (step_alloc (fun w => zeroValue107 w) zr107) fun v8 => ?_
  refine Ju (step_store_box ty107 Sr Sr zS) fun _ => ?_
  refine JL_freeze (t := 8) (Sel.take (Sel.none _)) Frz.box ?_
  refine JL_nil (Jr (Js rfl (step_fieldAddr so107 Sr rfl) (Jl rfl ty105 Sr (Jm rfl (Js rfl (step_call0 (sdv_spec _ _) ⟨Sr, Sr, trivial⟩ call93) ?_)))))
  refine Jm rfl (Js rfl (step_extract Sr rfl) (Js rfl (step_extract Sr rfl) ?_))
  refine Jx rfl (step_alloc (fun w => zeroValue91 w) zr91) fun v9 => ?_
  refine Ju (step_store_box ty91 Sr Sr zS) fun _ => ?_
  refine JL_freeze (t := 9) (Sel.take (Sel.none _)) Frz.box ?_
  refine Ja rfl (JL_nil (Jr (Js rfl (step_fieldAddr so107 Sr rfl) (Jl rfl ty105 Sr (Jm rfl ?_)))))
  refine Js rfl (step_call0 (sdv_spec _ _) ⟨Sr, Sr, trivial⟩ call93) (Jm rfl (Js rfl (step_extract Sr rfl) (Js rfl (step_extract Sr rfl) ?_)))
  refine Jx rfl (step_alloc (fun w => zeroValue91 w) zr91) fun v11 => ?_
  refine Ju (step_store_box ty91 Sr Sr zS) fun _ => ?_
  refine JL_freeze (t := 11) (Sel.take (Sel.none _)) Frz.box ?_
  refine Ja rfl (JL_nil (Jr (Jm rfl (Js rfl (step_not Sr) (Jm rfl ?_)))))
  refine Jk rfl Sr rfl (step_move Sr) ?_
  refine Jg rfl Sr rfl (fun hw => step_not (Sub.w hw)) (Js rfl (step_pick_or Sr Sr) (Jm rfl ?_))
  refine Jk rfl Sr rfl (step_load_ptr ty91 Sr) ?_
  refine Jk rfl Sr rfl (step_fieldAddr so107 Sr rfl) ?_
  refine Jg rfl Sr rfl (fun hw => step_load_ptr ty3 (Sub.w hw)) ?_
  refine Jk rfl Sr rfl (step_load_ptr ty91 Sr) ?_
  refine Jk rfl Sr rfl (step_fieldAddr so107 Sr rfl) ?_
  refine Jg rfl Sr rfl (fun hw => step_load_ptr ty3 (Sub.w hw)) (Jg rfl Sr rfl (fun hw => step_call0 (Test_spec _ _ _ _) ⟨(Sub.w hw), (Sub.w hw), (Sub.w hw), (Sub.w hw), trivial⟩ call88) (Jg rfl Sr rfl (fun hw => step_not (Sub.w hw)) (Js rfl (step_pick_or Sr Sr) (JL_nil ?_))))
  refine J_cond Sr (fun h65 => ?_) (fun h65 => ?_)
  ·
   try simp only [NF] at h65
   refine Jr (Ja rfl (JL_nil (J_ret ?_)))
   refine K_retv (rv := .tmp 4) rfl () (.tmp Sr) (Sub.bool ?_)
   have hb2 : tstV fs (nth d.Tests j) = false := by simp only [tstV]; rcases h65 with (h | h) | h <;> simp [h]
   rw [violV, all_dropV _ hlj hb2, Bool.and_false]
  try simp only [NF] at h65
  refine J_skip (J_region (Js rfl (step_add Sr Sr z6) (Jm rfl (JL_nil ?_))))
  refine K_againL (σ := Nat) (s := j) (j + 1) zO ?_ (zU) (LSub.rfl)
  refine ⟨by omega, fun q hq => ?_⟩
  by_cases e : q = j
  ·
   subst e; simp only [tstV]; simp_all
  exact hw2 q zG
 try simp only [NF] at h33
 refine J_exit (Jr (Ja rfl (JL_nil (J_ret ?_))))
 refine K_retv (rv := .tmp 4) rfl () (.tmp Sr) (Sub.bool ?_)
 have h1 : tabV d fs = true := by
  simp only [tabV, List.all_eq_true, List.mem_range]
  exact fun q hq => hv q zG
 have h2 : d.Tests.all (tstV fs) = true := by
  rw [List.all_eq_true]
  intro t ht
  obtain ⟨q, hq, rfl⟩ := mem_nthV ht
  exact hw2 q zG
 rw [violV, h1, h2]; rfl
open Go Go.Proofs Go.Proofs.Tryz
theorem rDisable (w : World) : (callFunc 179 #[]).run prog w = .ok (.value (.tuple #[])) w := run_call_mark0 func179 (by kernel_rfl) (by kernel_rfl) (by kernel_rfl) .disable (by kernel_rfl) w
theorem rEnable (w : World) : (callFunc 181 #[]).run prog w = .ok (.value (.tuple #[])) w := run_call_mark0 func181 (by kernel_rfl) (by kernel_rfl) (by kernel_rfl) .enable (by kernel_rfl) w
theorem rAcquire (a : Addr) (w : World) : (callFunc 182 #[.pointer (some a)]).run prog w = .ok (.value (.tuple #[])) w := run_call_marked func182 (by kernel_rfl) (by kernel_rfl) (by kernel_rfl) .acquire (by kernel_rfl) a w
theorem rMerge (a : Addr) (w : World) : (callFunc 184 #[.pointer (some a)]).run prog w = .ok (.value (.tuple #[])) w := run_call_marked func184 (by kernel_rfl) (by kernel_rfl) (by kernel_rfl) .releaseMerge (by kernel_rfl) a w
theorem store_deferred (a : Addr) (x : Value) (u : FrameMode) (w : World) (hc : w.cell? a = some x) (hz : w.frozen? a = false) :
    CallsD prog 163 #[.pointer (some a), .bool true] u w fun e u' w' => u' = u ∧ (e = .returned (.tuple #[]) ∧ w' = w.drew.setCell a (.int .u32 1)) := by
  have hc' : w.drew.cell? a = some x := by go_simp
  have hz' : w.drew.frozen? a = false := by go_simp
  have hst := run_call_store (P := prog) func173 (by kernel_rfl) (by kernel_rfl) (by kernel_rfl) (by kernel_rfl) (k := .u32) (y := 1) hc' hz'
  go_enter_d func163, Tryz.ntmps163
  go_wp2
  go_region_calls
  all_goals (go_end0; exact ⟨rfl, rfl⟩)
set_option maxRecDepth 100000 in
set_option maxHeartbeats 1600000 in
theorem unlock_deferred (a : Addr) (u : FrameMode) (w : World) (hc : w.cell? a = some (.int .i32 1)) (hz : w.frozen? a = false) :
    CallsD prog 162 #[.pointer (some a)] u w fun e u' w' => u' = u ∧ (e = .returned (.tuple #[]) ∧ w' = w.setCell a (.int .i32 0)) := by
  have hd := rDisable
  have he := rEnable
  have hr := rMerge
  have hadd := run_call_add (P := prog) func185 (by kernel_rfl) (by kernel_rfl) (by kernel_rfl) .i32 (by kernel_rfl) (y := -1) (s := 0) hc hz (by simp [go_sem]; rfl)
  have hcv := run_convert_to_unsafe (P := prog) (src := 265) (dst := 196) underlying265 underlying196 (by kernel_rfl) hc
  go_enter_d func162, Tryz.ntmps162
  go_wp2
  go_end0
  go_wp2
  go_end0
  exact ⟨rfl, rfl⟩
set_option maxRecDepth 100000 in
set_option maxHeartbeats 1600000 in
theorem lock_free (a : Addr) (w : World) (hc : w.cell? a = some (.int .i32 0)) (hz : w.frozen? a = false) :
    Calls prog 161 #[.pointer (some a)] w fun e w' => e = .returned (.tuple #[]) ∧ w' = w.setCell a (.int .i32 1) := by
  have hd := rDisable
  have he := rEnable
  have ha := rAcquire
  have hcas := run_call_cas_hit (P := prog) func180 (by kernel_rfl) (by kernel_rfl) (by kernel_rfl) .i32 (by kernel_rfl) (y := 1) hc hz
  have hc' : (w.setCell a (.int .i32 1)).cell? a = some (.int .i32 1) := World.cell?_setCell_same w a _ hc
  have hcv := run_convert_to_unsafe (P := prog) (src := 265) (dst := 196) underlying265 underlying196 (by kernel_rfl) hc'
  go_enter func161, Tryz.ntmps161
  go_wp2
  first | go_end0 | (simp only [Exit.inBlock, Exit.then]; refine bodyPost_ret (results_none rfl _ _ _) rfl ?_) | refine bodyPost_ret (results_none rfl _ _ _) rfl ?_
  go_wp2
  go_end0
  exact ⟨rfl, rfl⟩
open Go Go.Proofs Go.Proofs.Tryz
set_option maxRecDepth 100000 in
set_option maxHeartbeats 1600000 in
theorem slow_any (b : Nat) (w : World) (Q : World → Prop) (h0 : w.cell? ⟨b, 0, none⟩ = some (.int .u32 0)) (h1 : w.cell? ⟨b, 1, none⟩ = some (.int .i32 0)) (f0 : w.frozen? ⟨b, 0, none⟩ = false) (f1 : w.frozen? ⟨b, 1, none⟩ = false)
    (hf : Calls prog 135 #[.pointer (some ⟨b, 0, none⟩)] (w.setCell ⟨b, 1, none⟩ (.int .i32 1)) fun e w2 => e = .returned (.tuple #[]) ∧ Q w2 ∧ w2.cell? ⟨b, 0, none⟩ = some (.int .u32 0) ∧ w2.cell? ⟨b, 1, none⟩ = some (.int .i32 1) ∧ w2.frozen? ⟨b, 0, none⟩ = false ∧ w2.frozen? ⟨b, 1, none⟩ = false) :
    Calls prog 150 #[.pointer (some ⟨b, 0, none⟩), .func (.func 135) #[.pointer (some ⟨b, 0, none⟩)] #[]] w fun e w' => e = .returned (.tuple #[]) ∧ ∃ w2, Q w2 ∧ w' = (w2.drew.setCell ⟨b, 0, none⟩ (.int .u32 1)).setCell ⟨b, 1, none⟩ (.int .i32 0) := by
  have hl := run_call_load (P := prog) func160 (by kernel_rfl) (by kernel_rfl) (by kernel_rfl) .u32 (by kernel_rfl) (w := w.setCell ⟨b, 1, none⟩ (.int .i32 1)) (a := ⟨b, 0, none⟩) (x := 0) ((World.cell?_setCell_other _ ⟨b, 1, none⟩ ⟨b, 0, none⟩ _ (by simp)).trans h0)
  have hnot : ∀ (x : Bool) (w : World), (Op.unary .not (.bool x)).run prog w = .ok (.bool (!x)) w := fun _ _ => rfl
  go_enter_defers func150, Tryz.ntmps150
  go_wp2_with (first | (go_at_call 161; refine (lock_free ⟨b, 1, none⟩ _ (by first | exact h1 | go_simp) (by first | exact f1 | go_simp)).mono ?_; rintro e w' ⟨rfl, rfl⟩) | (go_at_call 135; refine hf.mono ?_; rintro e w2 ⟨rfl, hq, g0, g1, z0, z1⟩) | (go_at_call 149; go_in))
  refine leaves_cons (f := 163) (args := #[.pointer (some ⟨b, 0, none⟩), .bool true]) (by simp) (by simp [go_sem]) ?_
  refine (store_deferred ⟨b, 0, none⟩ (.int .u32 0) .returning _ g0 z0).mono ?_
  rintro e u' w'' ⟨rfl, rfl, rfl⟩
  refine leaves_cons (f := 162) (args := #[.pointer (some ⟨b, 1, none⟩)]) (by simp [settle]) (by simp [go_sem]) ?_
  refine (unlock_deferred ⟨b, 1, none⟩ _ _ ?_ (by simp [z1])).mono ?_
  · refine (World.cell?_setCell_other _ ⟨b, 0, none⟩ ⟨b, 1, none⟩ _ (by simp)).trans ?_
    rw [World.cell?_drew]; exact g1
  rintro e u' w'' ⟨rfl, rfl, rfl⟩
  simp only [Leaves, settle]
  simp [results, Tryz.results150]
  exact ⟨w2, hq, rfl⟩
set_option maxRecDepth 100000 in
set_option maxHeartbeats 1600000 in
/-- Once.Do, for the first time. -/
theorem do_first (b : Nat) (w : World) (Q : World → Prop) (h0 : w.cell? ⟨b, 0, none⟩ = some (.int .u32 0)) (h1 : w.cell? ⟨b, 1, none⟩ = some (.int .i32 0)) (f0 : w.frozen? ⟨b, 0, none⟩ = false) (f1 : w.frozen? ⟨b, 1, none⟩ = false)
    (hf : Calls prog 135 #[.pointer (some ⟨b, 0, none⟩)] (w.setCell ⟨b, 1, none⟩ (.int .i32 1)) fun e w2 => e = .returned (.tuple #[]) ∧ Q w2 ∧ w2.cell? ⟨b, 0, none⟩ = some (.int .u32 0) ∧ w2.cell? ⟨b, 1, none⟩ = some (.int .i32 1) ∧ w2.frozen? ⟨b, 0, none⟩ = false ∧ w2.frozen? ⟨b, 1, none⟩ = false) :
    Calls prog 134 #[.pointer (some ⟨b, 0, none⟩), .func (.func 135) #[.pointer (some ⟨b, 0, none⟩)] #[]] w fun e w' => e = .returned (.tuple #[]) ∧ ∃ w2, Q w2 ∧ w' = (w2.drew.setCell ⟨b, 0, none⟩ (.int .u32 1)).setCell ⟨b, 1, none⟩ (.int .i32 0) := by
  have hl := run_call_load (P := prog) func160 (by kernel_rfl) (by kernel_rfl) (by kernel_rfl) .u32 (by kernel_rfl) h0
  have hnot : ∀ (x : Bool) (w : World), (Op.unary .not (.bool x)).run prog w = .ok (.bool (!x)) w := fun _ _ => rfl
  go_enter func134, Tryz.ntmps134
  go_wp2_with (first | (go_at_call 150; refine (slow_any b w Q h0 h1 f0 f1 hf).mono ?_; rintro e w' ⟨rfl, w2, hq, rfl⟩) | (go_at_call 149; go_in))
  go_end0
  exact ⟨rfl, w2, hq, rfl⟩
open Go Go.Proofs Go.Proofs.Tryz
theorem bytesOf_rng (s : ByteArray) : ∀ x ∈ bytesOf s, 0 ≤ x ∧ x < 256 := by
  intro x hx
  unfold bytesOf at hx
  obtain ⟨b, _, rfl⟩ := List.mem_map.1 hx
  have := b.toNat_lt
  omega
def escU (c : Int) : List Int := if c = 34 then [92, 34] else if c = 92 then [92, 92] else if c = 10 then [92, 110] else [c]
def escL (l : List Int) : List Int := l.flatMap escU
theorem escL_cons (c : Int) (l : List Int) : escL (c :: l) = escU c ++ escL l := by simp [escL]
theorem escL_append (a b : List Int) : escL (a ++ b) = escL a ++ escL b := by simp [escL]
theorem escU_ne (c : Int) (t : List Int) : ∀ {u}, escU c ++ t ≠ 34 :: u := by
  intro u h
  unfold escU at h
  by_cases h1 : c = 34
  · rw [if_pos h1] at h; simp at h
  · rw [if_neg h1] at h
    by_cases h2 : c = 92
    · rw [if_pos h2] at h; simp at h
    · rw [if_neg h2] at h
      by_cases h3 : c = 10
      · rw [if_pos h3] at h; simp at h
      · rw [if_neg h3] at h; simp at h; exact h1 h.1
theorem escU_inj {c d : Int} {t u : List Int} (h : escU c ++ t = escU d ++ u) : c = d ∧ t = u := by
  unfold escU at h
  (repeat' split at h) <;> simp only [List.cons_append, List.nil_append, List.cons.injEq] at h <;> first | exact ⟨by omega, h.2.2⟩ | exact ⟨by omega, h.2⟩ | (exfalso; omega)
theorem esc_cut : ∀ {x y t t' : List Int}, escL x ++ 34 :: t = escL y ++ 34 :: t' → x = y ∧ t = t'
  | [], [], t, t', h => by simp [escL] at h; exact ⟨rfl, h⟩
  | [], d :: y, t, t', h => by
    rw [escL_cons, List.append_assoc] at h
    exact absurd h.symm (escU_ne d _)
  | c :: x, [], t, t', h => by
    rw [escL_cons, List.append_assoc] at h
    exact absurd h (escU_ne c _)
  | c :: x, d :: y, t, t', h => by
    rw [escL_cons, escL_cons, List.append_assoc, List.append_assoc] at h
    obtain ⟨rfl, h2⟩ := escU_inj h
    obtain ⟨rfl, h3⟩ := esc_cut h2
    exact ⟨rfl, h3⟩
theorem cut_at {z : Int} : ∀ {x y t t' : List Int}, z ∉ x → z ∉ y → x ++ z :: t = y ++ z :: t' → x = y ∧ t = t'
  | [], [], t, t', _, _, h => by simp at h; exact ⟨rfl, h⟩
  | [], d :: y, t, t', _, hy, h => by simp at h; simp at hy; exact absurd h.1 hy.1
  | c :: x, [], t, t', hx, _, h => by simp at h; simp at hx; exact absurd h.1.symm hx.1
  | c :: x, d :: y, t, t', hx, hy, h => by
    simp at h hx hy
    obtain ⟨rfl, h3⟩ := cut_at hx.2 hy.2 h.2
    exact ⟨by rw [h.1], h3⟩
/-- The number that digits say. -/
def digV (l : List UInt8) : Nat := l.foldl (fun a c => a * 10 + (c.toNat - 48)) 0
theorem digV_dec (n : Nat) : digV (Lib.decDigits n) = n := by
  induction n using Nat.strongRecOn with
  | _ n ih =>
    rw [Lib.decDigits]
    split
    · rename_i h
      simp only [digV, List.foldl_cons, List.foldl_nil]
      rw [UInt8.toNat_ofNat']
      omega
    · rename_i h
      have := ih (n / 10) (by omega)
      unfold digV at *
      rw [List.foldl_append, this]
      simp only [List.foldl_cons, List.foldl_nil]
      rw [UInt8.toNat_ofNat']
      omega
theorem dec_inj {a b : Nat} (h : Lib.decDigits a = Lib.decDigits b) : a = b := by rw [← digV_dec a, h, digV_dec]
theorem dec_rng (n : Nat) : (∀ c ∈ Lib.decDigits n, 48 ≤ c.toNat ∧ c.toNat ≤ 57) ∧ Lib.decDigits n ≠ [] := by
  induction n using Nat.strongRecOn with
  | _ n ih =>
    rw [Lib.decDigits]
    split
    · rename_i h
      refine ⟨fun c hc => ?_, by simp⟩
      simp only [List.mem_singleton] at hc
      subst hc
      rw [UInt8.toNat_ofNat']; omega
    · rename_i h
      refine ⟨fun c hc => ?_, by simp⟩
      rcases List.mem_append.1 hc with hc | hc
      · exact (ih (n / 10) (by omega)).1 c hc
      · simp only [List.mem_singleton] at hc
        subst hc
        rw [UInt8.toNat_ofNat']; omega
open Go Go.Proofs Go.Proofs.Tryz
/-- What a byte is replaced by; nil where it stays. -/
def tRep : List Int → Ty
  | [] => tV (.slice none 0 0)
  | x :: xs => tSl rU8 (x :: xs)
theorem tRep_one : ∀ {xs : List Int} {h : PH} {v : Value}, (tRep xs).p h v → v.oneCell' = true
  | [], h, v, a => by have a : v = .slice none 0 0 := a; subst a; rfl
  | x :: xs, h, v, a => by obtain ⟨ao, cap, rfl, _⟩ := a; rfl
theorem tRep_of {xs : List Int} (h : xs ≠ []) : tRep xs = tSl rU8 xs := by
  cases xs with
  | nil => exact absurd rfl h
  | cons x xs => rfl
def rRep : Rp (List Int) where
  k := 1
  agg := false
  rel := fun h o cs => ∃ u, cs = [u] ∧ (tRep o).p h u
  ty := tRep
  len := by rintro _ _ _ ⟨u, rfl, _⟩; rfl
  one := by rintro _ _ _ ⟨u, rfl, h⟩ c hc; simp at hc; subst hc; exact tRep_one h
  mono := fun {h h' o cs} l ⟨u, e, a⟩ => ⟨u, e, (tRep o).mono l a⟩
  scalar := fun _ => rfl
  iff := by
    intro h x v
    constructor
    · intro h1; exact ⟨[v], ⟨v, rfl, h1⟩, rfl⟩
    · rintro ⟨cs, ⟨u, rfl, h1⟩, rfl⟩; exact h1
theorem ty149R : TyOf prog 149 rRep := ⟨fun w => isAgg149 w, fun w => sizeOf149 w⟩
theorem ty243 : TyOf prog 243 (rArr 256 rRep) := ⟨fun w => isAgg243 w, fun w => sizeOf243 w⟩
theorem ty198 : TyOf prog 198 (rSl rStr) := ⟨fun w => isAgg198 w, fun w => sizeOf198 w⟩
theorem ty198V : TyOf prog 198 rV := ⟨fun w => isAgg198 w, fun w => sizeOf198 w⟩
abbrev fsB1 : List (SF (List (List Int) × Value)) := [⟨List (List Int), 243, rArr 256 rRep, Prod.fst⟩, ⟨Value, 198, rV, Prod.snd⟩]
abbrev fsB2 : List (SF (List (List Int) × List ByteArray)) := [⟨List (List Int), 243, rArr 256 rRep, Prod.fst⟩, ⟨List ByteArray, 198, rSl rStr, Prod.snd⟩]
theorem ty245a : TyOf prog 245 (rStruct fsB1) := ⟨fun w => isAgg245 w, fun w => sizeOf245 w⟩
theorem ty245 : TyOf prog 245 (rStruct fsB2) := ⟨fun w => isAgg245 w, fun w => sizeOf245 w⟩
theorem so245a : StructOf prog 245 fsB1 := ⟨⟨_, underlying245, ⟨rfl, rfl, ty243, by decide, ⟨rfl, rfl, ty198V, by decide, trivial⟩⟩⟩, ty245a⟩
theorem so245 : StructOf prog 245 fsB2 := ⟨⟨_, underlying245, ⟨rfl, rfl, ty243, by decide, ⟨rfl, rfl, ty198, by decide, trivial⟩⟩⟩, ty245⟩
abbrev nilsR : List (List Int) := List.replicate 256 []
theorem relAll_nils {h : PH} : ∀ n, relAll rRep h (List.replicate n []) (List.replicate n (Value.slice none 0 0))
  | 0 => rfl
  | n + 1 => ⟨[.slice none 0 0], List.replicate n (.slice none 0 0), rfl, ⟨_, rfl, rfl⟩, relAll_nils n⟩
theorem zr245 : ∀ h, ((rStruct fsB1).ty (nilsR, .slice none 0 0)).p h (.agg Tryz.zeroCells245) := fun h =>
  ⟨List.replicate 256 (.slice none 0 0) ++ [.slice none 0 0], ⟨_, _, rfl, ⟨by simp, relAll_nils 256⟩, [.slice none 0 0], [], rfl, ⟨rfl, rfl⟩, rfl⟩, by kernel_rfl⟩
/-- The object behind the interface. -/
def replE (l : List ByteArray) : Nat → List (List Int)
  | 0 => nilsR
  | n + 1 => (replE l n).set (nth (bytesOf (nth l (l.length - 2 - 2 * n))) 0).toNat (bytesOf (nth l (l.length - 2 - 2 * n + 1)))
def toRepE (l : List ByteArray) (n : Nat) : List ByteArray := (List.range n).map fun i => nth l (l.length - 2 - 2 * i)
abbrev six : List ByteArray := [⟨#[34]⟩, ⟨#[92, 34]⟩, ⟨#[92]⟩, ⟨#[92, 92]⟩, ⟨#[10]⟩, ⟨#[92, 110]⟩]
def tRI : Ty := tIf 246 (tPtr (rStruct fsB2) (replE six 3, toRepE six 3))
def tOI : Bool → Ty
  | false => tV .nilIface
  | true => tRI
theorem tOI_one : ∀ {o : Bool} {h : PH} {v : Value}, (tOI o).p h v → v.oneCell' = true
  | false, h, v, a => by have a : v = .nilIface := a; subst a; rfl
  | true, h, v, a => by obtain ⟨u, rfl, b, off, cs, rfl, _⟩ := a; rfl
def rOI : Rp Bool where
  k := 1
  agg := false
  rel := fun h o cs => ∃ u, cs = [u] ∧ (tOI o).p h u
  ty := tOI
  len := by rintro _ _ _ ⟨u, rfl, _⟩; rfl
  one := by rintro _ _ _ ⟨u, rfl, h⟩ c hc; simp at hc; subst hc; exact tOI_one h
  mono := fun {h h' o cs} l ⟨u, e, a⟩ => ⟨u, e, (tOI o).mono l a⟩
  scalar := fun _ => rfl
  iff := by
    intro h x v
    constructor
    · intro h1; exact ⟨[v], ⟨v, rfl, h1⟩, rfl⟩
    · rintro ⟨cs, ⟨u, rfl, h1⟩, rfl⟩; exact h1
theorem ty211 : TyOf prog 211 rOI := ⟨fun w => isAgg211 w, fun w => sizeOf211 w⟩
theorem ty209 : TyOf prog 209 (rCells 3) := ⟨fun w => isAgg209 w, fun w => sizeOf209 w⟩
abbrev GRpl := List Value × Bool × List ByteArray
abbrev fsRpl : List (SF GRpl) := [⟨List Value, 209, rCells 3, fun x => x.1⟩, ⟨Bool, 211, rOI, fun x => x.2.1⟩, ⟨List ByteArray, 198, rSl rStr, fun x => x.2.2⟩]
theorem ty213 : TyOf prog 213 (rStruct fsRpl) := ⟨fun w => isAgg213 w, fun w => sizeOf213 w⟩
theorem so213 : StructOf prog 213 fsRpl := ⟨⟨_, underlying213, ⟨rfl, rfl, ty209, by decide, ⟨rfl, rfl, ty211, by decide, ⟨rfl, rfl, ty198, by decide, trivial⟩⟩⟩⟩, ty213⟩
abbrev once (d m : Int) : List Value := [.int .u32 d, .int .i32 m, .int .u32 0]
open Go Go.Proofs Go.Proofs.Tryz
theorem rpl_cells {h : PH} {y : GRpl} {cs : List Value} (r : SF.rel h y fsRpl cs) : ∃ u v, cs = y.1 ++ [u, v] ∧ y.1.length = 3 := by
  obtain ⟨c0, _, rfl, ⟨rfl, hl, _⟩, c1, _, rfl, ⟨u, rfl, _⟩, c2, _, rfl, r2, rz⟩ := r
  obtain ⟨v, rfl, _⟩ := r2
  rw [show _ = [] from rz]
  exact ⟨u, v, by simp, hl⟩
theorem rpl_set {h : PH} {o o' : List Value} {a : Bool} {l : List ByteArray} {cs : List Value} (r : SF.rel h (o, a, l) fsRpl cs) (hl : o'.length = 3) (ho : ∀ c ∈ o', c.oneCell' = true) : SF.rel h (o', a, l) fsRpl (o' ++ cs.drop 3) := by
  obtain ⟨c0, c1, rfl, ⟨e0, h0, _⟩, r1⟩ := r
  have e0 : c0 = o := e0
  subst e0
  refine ⟨o', c1, ?_, ⟨rfl, hl, ho⟩, r1⟩
  rw [List.drop_left' h0]
theorem setCell_heap {w : World} {b i : Nat} {c : Array Value} {t : Nat} {v : Value} (hb : w.heap[b]? = some (.cells c t (0, 0))) : (w.setCell ⟨b, i, none⟩ v).heap[b]? = some (.cells (c.setIfInBounds i v) t (0, 0)) := by
  simpa using heap_setCell_same w b i c t v hb
theorem Sep.setCell {h m r : PH} {w : World} {b i : Nat} {c : Array Value} {t : Nat} {v : Value} (d : (PH.one b (.cells c t (0, 0))).disj m) (s : Sep h ((PH.one b (.cells c t (0, 0))).join m) r w) :
    Sep h ((PH.one b (.cells (c.setIfInBounds i v) t (0, 0))).join m) r (w.setCell ⟨b, i, none⟩ v) :=
  Sep.write d s (fun b' hne _ => heap_setCell_other w ⟨b, i, none⟩ b' v hne) (setCell_heap s.heap_own)
theorem Same.setCell (w : World) (a : Addr) (v : Value) : Same w (w.setCell a v) := ⟨rfl, rfl, rfl⟩
theorem Do_spec (b : Nat) (hB : Spec (X := Unit) prog 135 [tAt b 0] [box b 213 (rStruct fsRpl) (once 0 1, false, six)] (fun _ => tTup []) (fun _ => [box b 213 (rStruct fsRpl) (once 0 1, true, [])])) :
    Spec (X := Unit) prog 134 [tAt b 0, tV (.func (.func 135) #[.pointer (some ⟨b, 0, none⟩)] #[])] [box b 213 (rStruct fsRpl) (once 0 0, false, six)] (fun _ => tTup []) (fun _ => [box b 213 (rStruct fsRpl) (once 1 0, true, [])]) := by
  intro vs h m r w ha sp st
  match vs, ha with
  | [u1, u2], ⟨a1, a2, _⟩ =>
  have a1 : u1 = .pointer (some ⟨b, 0, none⟩) := a1
  have a2 : u2 = .func (.func 135) #[.pointer (some ⟨b, 0, none⟩)] #[] := a2
  subst a1; subst a2
  obtain ⟨m1, m2, d12, rfl, ⟨cs, rel, rfl⟩, e2⟩ := st
  have e2 : m2 = PH.emp := e2
  subst e2
  obtain ⟨u, v, hcs, _⟩ := rpl_cells rel
  have hcs : cs = [.int .u32 0, .int .i32 0, .int .u32 0, u, v] := hcs
  subst hcs
  have hb := sp.heap_own
  have hcell : ∀ i, w.cell? ⟨b, i, none⟩ = ([.int .u32 0, .int .i32 0, .int .u32 0, u, v] : List Value).toArray[i]? := fun i => inw_cells (h := h) hb i
  have hfz : ∀ i, w.frozen? ⟨b, i, none⟩ = false := fun i => by simp [World.frozen?, hb]
  have s1 := sp.setCell (i := 1) (v := .int .i32 1) d12
  have rel1 := rpl_set (o' := once 0 1) rel rfl (by intro c hc; simp at hc; rcases hc with rfl | rfl | rfl <;> rfl)
  refine (do_first b w (fun w2 => ∃ h' m', HL h w h' w2 ∧ Sep h' m' r w2 ∧ (stars [box b 213 (rStruct fsRpl) (once 0 1, true, [])]).p h' m') (hcell 0) (hcell 1) (hfz 0) (hfz 1) ?_).mono ?_
  · refine (hB [.pointer (some ⟨b, 0, none⟩)] h _ r _ ⟨rfl, trivial⟩ s1 ⟨_, PH.emp, PH.disj_emp _, rfl, ⟨_, rel1, rfl⟩, rfl⟩).mono ?_
    rintro e w2 ⟨x, v2, h', m', rfl, l, s2, st2, ⟨vs, hv, hva⟩⟩
    have hvs : v2 = .tuple #[] := by
      cases vs with
      | nil => exact hv
      | cons a b => exact hva.elim
    subst hvs
    have st2' := st2
    obtain ⟨m3, m4, d34, rfl, ⟨cs2, relb, rfl⟩, e4⟩ := st2
    have e4 : m4 = PH.emp := e4
    subst e4
    obtain ⟨u', v', hcs2, _⟩ := rpl_cells relb
    have hcs2 : cs2 = [.int .u32 0, .int .i32 1, .int .u32 0, u', v'] := hcs2
    subst hcs2
    have hb2 := s2.heap_own
    have hc2 : ∀ i, w2.cell? ⟨b, i, none⟩ = ([.int .u32 0, .int .i32 1, .int .u32 0, u', v'] : List Value).toArray[i]? := fun i => inw_cells (h := h') hb2 i
    have hz2 : ∀ i, w2.frozen? ⟨b, i, none⟩ = false := fun i => by simp [World.frozen?, hb2]
    exact ⟨rfl, ⟨h', _, ⟨l.1, (Same.setCell w ⟨b, 1, none⟩ _).trans l.2⟩, s2, st2'⟩, hc2 0, hc2 1, hz2 0, hz2 1⟩
  · rintro e w' ⟨rfl, w2, ⟨h', m', l, s2, st2⟩, rfl⟩
    obtain ⟨m3, m4, d34, rfl, ⟨cs2, relb, rfl⟩, e4⟩ := st2
    have e4 : m4 = PH.emp := e4
    subst e4
    obtain ⟨u', v', hcs2, _⟩ := rpl_cells relb
    have hcs2 : cs2 = [.int .u32 0, .int .i32 1, .int .u32 0, u', v'] := hcs2
    subst hcs2
    have t1 := (s2.drew).setCell (i := 0) (v := .int .u32 1) d34
    have t2 := t1.setCell (i := 1) (v := .int .i32 0) (PH.disj_emp _)
    have rel2 := rpl_set (o' := once 1 0) relb rfl (by intro c hc; simp at hc; rcases hc with rfl | rfl | rfl <;> rfl)
    exact ⟨(), .tuple #[], h', _, rfl, ⟨l.1, l.2.trans ((Same.drew _).trans ((Same.setCell _ _ _).trans (Same.setCell _ _ _)))⟩, t2, ⟨_, PH.emp, PH.disj_emp _, rfl, ⟨_, rel2, rfl⟩, rfl⟩, ⟨[], rfl, trivial⟩⟩
open Go Go.Proofs Go.Proofs.Tryz
theorem step_eql_nilV {C : Cx} {E : Env} {L : List SP} {d : Option Nat} {ty : Nat} {pos : String} {af : Array Edge} {g : Option (Nat × Bool)} {T U e : Nat} {x : Operand} (hu : C.P.underlying T = some (.slice e)) (hx : Sub (opTy E x) (tV (.slice none 0 0))) :
    Step1 C ⟨d, .binOp .eql T x (.const (.slice none 0 0)) U, ty, pos, af, g⟩ E L (tV (.bool true)) :=
  Step.of_same (by intro c h; cases h) fun a w h hw fr => by
    have hv : a.eval x = .slice none 0 0 := fr.get hx
    refine ⟨.bool true, ?_, rfl⟩
    have he : ∀ w, (eqGuard .eql T x (.const (.slice none 0 0)) (a.eval x) (.slice none 0 0)).run C.P w = .ok () w := by intro w; rw [hv]; simp [eqGuard]
    have h2 : a.eval (.const (.slice none 0 0)) = .slice none 0 0 := rfl
    have hr := Lib.run_eql_slice_nil (P := C.P) w T e none 0 0 0 0 hu
    rw [hv] at he
    simp [execOp, hv, h2, Sem.run_bind, he, hr]
theorem bsr_eq : ∀ c, c < 3 → nth (replE six c) (nth (bytesOf (nth six (6 - 2 - 2 * c))) 0).toNat = [] := by decide
theorem key_str : ∀ c, c < 3 → ofBytes [nth (bytesOf (nth six (6 - 2 - 2 * c))) 0] = nth six (6 - 2 - 2 * c) := by decide
theorem val_ne : ∀ c, c < 3 → bytesOf (nth six (6 - 2 - 2 * c + 1)) ≠ [] := by decide
theorem z229 (w : World) : (zeroValue 245).run prog w = .ok (.agg ([List.replicate 256 (.slice none 0 0), [.slice none 0 0]].flatten.toArray)) w := by
  rw [zeroValue245 w]
  exact congrArg (fun c => Result.ok (Value.agg c) w) (by kernel_rfl)
theorem oldnew_one : ∀ i, i < 6 → i % 2 = 0 → (nth six i).size = 1 := by decide
theorem oldnew_two : ∀ i, i < 6 → i % 2 = 0 → (nth six (i + 1)).size = 2 := by decide
theorem NewReplacer_spec (l : List ByteArray) (hl : l.length ≤ 1000000) (he : l.length % 2 = 0) : Spec (X := Nat) prog 114 [tSl rStr l] ([]) (fun b => tAt b 0) (fun b => [box b 213 (rStruct fsRpl) (once 0 0, false, l)]) := by
 refine Spec.enter func114 rfl rfl fun h0 w0 fr0 => ?_
 refine Jr (Ja rfl (JL_nil (J_seq (Jr (Jm rfl ?_)))))
 refine Js rfl (step_len_sl underlying198 Sr) ?_
 refine Js rfl (step_rem Sr Sr zG (by decide)) ?_
 refine Js rfl (step_eql Sr Sr) (JL_nil ?_)
 refine J_cond Sr (fun h6 => ?_) (fun h6 => ?_)
 ·
  try simp only [NF] at h6
  exfalso; have h6 : (l.length : Int) % 2 = 1 := h6; omega
 try simp only [NF] at h6
 refine J_skip (J_seq ?_)
 refine K_lsub (LSub.nilown (e := 9) (R := rStr)) ?_
 refine J_region (Jm rfl ?_)
 refine Jx rfl (step_append underlying198 el9 (Sub.rV rfl) Sr zS (by simp; omega) (by simp; omega)) fun v9 => ?_
 refine JL_freeze (t := 9) (A' := tSl rStr l) (Sel.take (Sel.none _)) (Frz.own' (by simp)) ?_
 refine Js rfl (step_build (x := ((once 0 0, false, l) : GRpl)) (zs := [once 0 0, [.nilIface], [.slice none 0 0]]) so213 (fun w => zeroValue213 w) ⟨Sr, trivial⟩ ⟨fun _ => ⟨rfl, rfl, by intro c hc; simp at hc; rcases hc with rfl | rfl | rfl <;> rfl⟩, fun _ => ⟨_, rfl, rfl⟩, ⟨Sr, rfl⟩, trivial⟩) ?_
 refine Jx rfl (step_box_own (R := rStruct fsRpl) Sr) fun b11 => ?_
 refine Ja rfl (JL_nil (J_ret ?_))
 refine K_ret1 (t := 2) rfl b11 Sr
set_option maxHeartbeats 4000000 in
theorem build_spec (b : Nat) : Spec (X := Unit) prog 151 [tAt b 0] ([box b 213 (rStruct fsRpl) (once 0 1, false, six)]) (fun _ => tRI) (fun _ => [box b 213 (rStruct fsRpl) (once 0 1, false, six)]) := by
 refine Spec.enter func151 rfl rfl fun h0 w0 fr0 => ?_
 refine Jr (Ja rfl (JL_nil (Jr (Jm rfl (Js rfl (step_nilCheck Sr) ?_)))))
 refine Js rfl (step_fieldAddr_own so213 Sr rfl) ?_
 refine Js rfl (step_load_fld ty198 Sr rfl zS) ?_
 refine Ja rfl (JL_nil (J_seq (Jr (Jm rfl (Js rfl (step_len_sl underlying198 Sr) ?_)))))
 refine Js rfl (step_eql Sr Sr) (Jm rfl ?_)
 refine Jk rfl Sr rfl (step_move Sr) ?_
 refine Jg rfl Sr rfl (fun hw => step_indexAddr_sl (i := 0) underlying198 ty9 (Sub.w hw) Sr (by rfl) (gb (by have hwq := hw; (try simp only [beqB_t, beqB_f, NF] at hwq); decide))) ?_
 refine Jg rfl Sr rfl (fun hw => step_load_ptr ty9 (Sub.w hw)) (Jg rfl Sr rfl (fun hw => step_len_str underlying9 (Sub.w hw)) (Jg rfl Sr rfl (fun hw => step_gtr (Sub.w hw) Sr) (Js rfl (step_pick_and Sr Sr) (JL_nil ?_))))
 refine J_cond Sr (fun h28 => ?_) (fun h28 => ?_)
 ·
  try simp only [NF] at h28
  exfalso; simp at h28
 try simp only [NF] at h28
 refine J_skip (Jr (Ja rfl (JL_nil (J_seq (Jr ?_)))))
 refine Ja rfl (JL_nil (J_block ?_))
 refine J_loopL (σ := Nat × Bool) (fun ⟨i, al⟩ => i ≤ 6 ∧ i % 2 = 0 ∧ (al = true → i = 0)) (fun ⟨i, al⟩ => upd (upd (upd env0 3 (tSl rStr six)) 4 (tV (.bool al))) 5 (tV (.int .i64 i))) (fun ⟨i, al⟩ => [box b 213 (rStruct fsRpl) (once 0 1, false, six)]) (fun ⟨i, al⟩ => 6 - i) (0, true) ⟨by omega, by omega, fun _ => rfl⟩ (zU) (LSub.rfl) ?_
 rintro ⟨i, al⟩ ⟨hi, hev, hal⟩
 refine J_seq (Jr (Jm rfl (Jm rfl (Js rfl (step_len_sl underlying198 Sr) (Js rfl (step_lss Sr Sr) ?_)))))
 refine JL_nil ?_
 refine J_cond Sr (fun h40 => ?_) (fun h40 => ?_)
 ·
  try simp only [NF] at h40
  have h6 : six.length = 6 := rfl
  have hlt : i < 6 := by omega
  refine J_skip (J_seq (J_block (J_seq (Jr (Jm rfl ?_)))))
  refine Jm rfl ?_
  refine Js rfl (step_indexAddr_sl  underlying198 ty9 Sr Sr rfl (gb (by exact hlt))) ?_
  refine Jl rfl ty9 Sr (Js rfl (step_len_str underlying9 Sr) (Js rfl (step_neq Sr Sr) (JL_nil ?_)))
  refine J_cond Sr (fun h48 => ?_) (fun h48 => ?_)
  ·
   try simp only [NF] at h48
   exact absurd h48 (by have := oldnew_one i hlt hev; omega)
  try simp only [NF] at h48
  refine J_skip (Jr (Jm rfl (Jm rfl (Js rfl (step_add Sr Sr z6) ?_))))
  refine Js rfl (step_indexAddr_sl (i := (i + 1)) underlying198 ty9 Sr Sr zG (gb (by show i + 1 < 6; omega))) ?_
  refine Jl rfl ty9 Sr (Js rfl (step_len_str underlying9 Sr) (Js rfl (step_neq Sr Sr) (JL_nil ?_)))
  refine J_cond Sr (fun h58 => ?_) (fun h58 => ?_)
  ·
   try simp only [NF] at h58
   refine J_region (Ja rfl (JL_nil (J_region (Jm rfl (Js rfl (step_add Sr Sr z6) ?_)))))
   refine Ja rfl (JL_nil ?_)
   refine K_againL (σ := Nat × Bool) (s := (i, al)) (i + 2, false) zO ⟨by omega, by omega, fun q => by cases q⟩ (zU) (LSub.rfl)
  try simp only [NF] at h58
  exact absurd h58 (by have := oldnew_two i hlt hev; omega)
 try simp only [NF] at h40
 have h6 : six.length = 6 := rfl
 have hge : 6 ≤ i := by omega
 refine J_exit (J_seq (Jr (Jm rfl (JL_nil ?_))))
 refine J_cond Sr (fun h59 => ?_) (fun h59 => ?_)
 ·
  try simp only [NF] at h59
  exfalso; have := hal h59; omega
 try simp only [NF] at h59
 refine J_skip (Jr (Jm rfl (Js rfl (step_len_sl underlying198 Sr) ?_)))
 refine Js rfl (step_quo Sr Sr (by decide) (by decide) z6) ?_
 refine Jx rfl (step_make0 (c := 3) underlying198 el9 Sr Sr rfl (by decide) (by decide) (by decide)) fun v94 => ?_
 refine Js rfl (step_build (x := ((nilsR, v94) : List (List Int) × Value)) (zs := [List.replicate 256 (.slice none 0 0), [.slice none 0 0]]) so245a z229 ⟨Sr, trivial⟩ ⟨fun _ => ⟨by simp, relAll_nils 256⟩, ⟨Sr, rfl⟩, trivial⟩) ?_
 refine Jx rfl (step_alloc (R := rStruct fsB1) (z := (nilsR, .slice none 0 0)) (fun w => zeroValue245 w) zr245) fun b11 => ?_
 refine Ju (step_store_box ty245a Sr Sr zS) fun _ => ?_
 refine JL_nil (J_seq (Jr (Jm rfl (Js rfl (step_len_sl underlying198 Sr) (Js rfl (step_sub Sr Sr z6) ?_)))))
 refine Ja rfl (JL_nil (J_block ?_))
 refine J_loopL (σ := Nat × Value) (fun ⟨c, v⟩ => c ≤ 3) (fun ⟨c, v⟩ => upd (upd (upd env0 3 (tSl rStr six)) 11 (tAt b11 0)) 12 (tV (.int .i64 (4 - 2 * (c : Int))))) (fun ⟨c, v⟩ => [box b11 245 (rStruct fsB1) (replE six c, v), own 9 rStr v (toRepE six c), box b 213 (rStruct fsRpl) (once 0 1, false, six)]) (fun ⟨c, v⟩ => 3 - c) (0, v94) zG (SubE.upd (Sub.int (by decide)) (zU)) (.r zS (.c zS (own_eq rfl) (zL))) ?_
 rintro ⟨c, v⟩ hc
 try dsimp only at hc
 refine J_seq (Jr (Jm rfl (Js rfl (step_geq Sr Sr) (JL_nil ?_))))
 refine J_cond Sr (fun h100 => ?_) (fun h100 => ?_)
 ·
  try simp only [NF] at h100
  have hc3 : c < 3 := by omega
  have htl : (toRepE six c).length = c := by simp [toRepE]
  have hs1 := oldnew_one (6 - 2 - 2 * c) zG zG
  have hk : 0 ≤ (nth (bytesOf (nth six (6 - 2 - 2 * c))) 0) ∧ (nth (bytesOf (nth six (6 - 2 - 2 * c))) 0) < 256 := bytesOf_rng _ _ (nth_mem (by rw [bytesOf_len]; omega))
  refine J_skip (J_seq (J_block (Jr (Jm rfl (Jm rfl ?_)))))
  refine Js rfl (step_indexAddr_sl (i := (6 - 2 - 2 * c)) underlying198 ty9 Sr Sr zG (gb (by show 6 - 2 - 2 * c < 6; omega))) ?_
  refine Jl rfl ty9 Sr ?_
  refine Js rfl (step_index_str (i := 0) underlying9 Sr Sr (by rfl) zG) ?_
  refine Ja rfl (JL_nil (Jr (Jm rfl (Jm rfl (Js rfl (step_add Sr Sr z6) ?_)))))
  refine Js rfl (step_indexAddr_sl (i := (6 - 2 - 2 * c + 1)) underlying198 ty9 Sr Sr zG (gb (by show 6 - 2 - 2 * c + 1 < 6; omega))) ?_
  refine Jl rfl ty9 Sr (Ja rfl (JL_nil (J_seq (Jr (Jm rfl ?_)))))
  refine Js rfl (step_fieldAddr_own so245a Sr rfl) ?_
  refine Js rfl (step_arrIdx (o := 0) (i := (nth (bytesOf (nth six (6 - 2 - 2 * c))) 0).toNat) underlying243 (fun w => sizeOf149 w) Sr Sr zG zG) ?_
  refine Js rfl (step_load_arr (n := 256) ty149R rfl (Sub.v (by rw [Nat.zero_add])) zG zS) ?_
  refine Js rfl (step_eql_nilV underlying149 (Sub.of_eq (by show tRep (nth (replE six c) _) = _; rw [bsr_eq c hc3]; rfl))) ?_
  refine JL_nil ?_
  refine J_cond Sr (fun h117 => ?_) (fun h117 => ?_)
  ·
   try simp only [NF] at h117
   refine J_region (Js rfl (step_fieldAddr_own so245a Sr rfl) ?_)
   refine Js rfl (step_load_fld ty198V Sr rfl zS) ?_
   refine Jm rfl ?_
   refine Jx rfl (step_literal_own (ys := [_]) underlying149 el5 ⟨rfl, Sr, trivial⟩ rfl (by decide)) fun v121 => ?_
   refine Js rfl (step_convert_str underlying149 underlying5 underlying9 Sr zS) ?_
   refine JL_freeze (t := 121) (A' := tSl rU8 [(nth (bytesOf (nth six (6 - 2 - 2 * c))) 0)]) (Sel.take (Sel.none _)) Frz.own ?_
   refine Js rfl (step_literal (ys := [_]) underlying198 el9 ⟨rfl, Sr, trivial⟩ rfl (by decide)) ?_
   refine Jx rfl (step_append underlying198 el9 Sr Sr zS (by simp; omega) (by simp; omega)) fun v124 => ?_
   refine Js rfl (step_fieldAddr_own so245a Sr rfl) ?_
   refine Ju (step_store_fld (R := rV) (y := ((replE six c, v) : List (List Int) × Value)) (y' := ((replE six c, v124) : List (List Int) × Value)) ty198V Sr Sr zS ⟨rfl, fun h cs r => r, rfl, by intro g hg; cases hg⟩) fun _ => ?_
   refine JL_nil (J_region (Jm rfl (Jm rfl (Js rfl (step_convert_bytes underlying9 underlying149 underlying5 Sr) (Js rfl (step_fieldAddr_own so245a Sr rfl) ?_)))))
   refine Js rfl (step_arrIdx (o := 0) (i := (nth (bytesOf (nth six (6 - 2 - 2 * c))) 0).toNat) underlying243 (fun w => sizeOf149 w) Sr Sr zG zG) ?_
   refine Ju (step_store_arr (n := 256) (z := bytesOf (nth six (6 - 2 - 2 * c + 1))) (y' := ((replE six (c + 1), v124) : List (List Int) × Value)) ty149R rfl (Sub.v (by rw [Nat.zero_add])) zG (Sub.of_eq (tRep_of (val_ne c hc3)).symm) zS rfl (by intro f hf; simp at hf; subst hf; rfl)) fun _ => ?_
   refine JL_nil (J_region (Jm rfl (Js rfl (step_sub Sr Sr z6) (Ja rfl (JL_nil ?_)))))
   refine K_againL (σ := Nat × Value) (s := (c, v)) (c + 1, v124) zO zG (SubE.upd (Sub.int zG) (zU)) (.r zS (.c zS (own_eq (by rw [key_str c hc3]; simp [toRepE, List.range_succ])) (zL)))
  try simp only [NF] at h117
  exfalso; simp at h117
 try simp only [NF] at h100
 obtain rfl : c = 3 := by omega
 refine J_exit (Jr ?_)
 refine JL_freeze (t := 11) (A' := tPtr (rStruct fsB2) (replE six 3, toRepE six 3)) (Sel.take (Sel.take (Sel.none _))) (Frz.up (fun h h' cs le hv r => by
 obtain ⟨c0, _, rfl, r0, c1, _, rfl, r1, rz⟩ := r
 exact ⟨c0, _, rfl, (rArr 256 rRep).mono le r0, c1, _, rfl, ⟨_, r1.1, hv⟩, rz⟩)) ?_
 refine Js rfl (step_mkIface underlying246 (by intro m h; cases h) Sr) ?_
 refine Ja rfl (JL_nil (J_ret ?_))
 refine K_ret1 (t := 2) rfl () Sr
open Go Go.Proofs Go.Proofs.Tryz
theorem count_bytes (l : List UInt8) (c : Int) (h : 0 ≤ c ∧ c < 256) : l.count c.toNat.toUInt8 = (l.map fun b => (b.toNat : Int)).count c := by
  induction l with
  | nil => rfl
  | cons b l ih =>
    rw [List.map_cons, List.count_cons, List.count_cons, ih]
    congr 1
    have e : (b == c.toNat.toUInt8) = ((b.toNat : Int) == c) := by
      rw [Bool.eq_iff_iff, beq_iff_eq, beq_iff_eq]
      constructor
      · intro q
        subst q
        have : c.toNat.toUInt8.toNat = c.toNat := by show (UInt8.ofNat c.toNat).toNat = _; rw [UInt8.toNat_ofNat']; omega
        omega
      · intro q
        apply UInt8.toNat_inj.1
        show _ = (UInt8.ofNat c.toNat).toNat
        rw [UInt8.toNat_ofNat']; omega
    rw [e]
def extraL (l : List Int) : Nat := l.count 10 + l.count 92 + l.count 34
theorem escU_len (c : Int) : (escU c).length = 1 + extraL [c] := by
  unfold escU extraL
  by_cases h1 : c = 34
  · subst h1; rfl
  · by_cases h2 : c = 92
    · subst h2; rfl
    · by_cases h3 : c = 10
      · subst h3; rfl
      · simp [h1, h2, h3, List.count_cons]
theorem extraL_append (a b : List Int) : extraL (a ++ b) = extraL a + extraL b := by unfold extraL; rw [List.count_append, List.count_append, List.count_append]; omega
theorem extraL_le (l : List Int) : extraL l ≤ 3 * l.length := by
  unfold extraL
  have h1 := List.count_le_length (a := (10 : Int)) (l := l)
  have h2 := List.count_le_length (a := (92 : Int)) (l := l)
  have h3 := List.count_le_length (a := (34 : Int)) (l := l)
  omega
theorem escL_length : ∀ l : List Int, (escL l).length = l.length + extraL l
  | [] => rfl
  | c :: l => by
    have e : c :: l = [c] ++ l := rfl
    rw [escL_cons, List.length_append, escL_length l, escU_len, e, extraL_append]
    simp; omega
theorem escL_same : ∀ {l : List Int}, extraL l = 0 → escL l = l
  | [], _ => rfl
  | c :: l, h => by
    have e : c :: l = [c] ++ l := rfl
    rw [e, extraL_append] at h
    have h1 : escU c = [c] := by
      have h2 : extraL [c] = 0 := by omega
      unfold extraL at h2
      simp only [List.count_cons, List.count_nil] at h2
      unfold escU
      rw [if_neg, if_neg, if_neg]
      · rintro rfl; simp at h2
      · rintro rfl; simp at h2
      · rintro rfl; simp at h2
    rw [escL_cons, h1, escL_same (by omega)]; rfl
abbrev R3 : List (List Int) := replE six 3
abbrev T3 : List ByteArray := toRepE six 3
theorem r3_all : (List.range 256).all (fun c => decide (escU (c : Int) = if nth R3 c = [] then [(c : Int)] else nth R3 c) && decide (nth R3 c = [] ∨ (nth R3 c).length = 2)) = true := by kernel_rfl
theorem r3 {c : Int} (h : 0 ≤ c ∧ c < 256) : escU c = (if nth R3 c.toNat = [] then [c] else nth R3 c.toNat) ∧ (nth R3 c.toNat = [] ∨ (nth R3 c.toNat).length = 2) := by
  have := List.all_eq_true.1 r3_all c.toNat (List.mem_range.2 (by omega))
  rw [Bool.and_eq_true, decide_eq_true_eq, decide_eq_true_eq, Int.toNat_of_nonneg h.1] at this
  exact this
theorem t3_one : ∀ i, i < 3 → (nth T3 i).size = 1 := by decide
theorem t3_rep : ∀ i, i < 3 → (nth R3 (nth (bytesOf (nth T3 i)) 0).toNat).length = 2 := by decide
def sumC (l : List Int) (j : Nat) : Nat := ((List.range j).map fun i => l.count (nth (bytesOf (nth T3 i)) 0)).sum
theorem sumC_succ (l : List Int) (j : Nat) : sumC l (j + 1) = sumC l j + l.count (nth (bytesOf (nth T3 j)) 0) := by simp [sumC, List.range_succ]
theorem sumC_3 (l : List Int) : sumC l 3 = extraL l := by
  rw [sumC_succ, sumC_succ, sumC_succ]
  have e0 : nth (bytesOf (nth T3 0)) 0 = 10 := rfl
  have e1 : nth (bytesOf (nth T3 1)) 0 = 92 := rfl
  have e2 : nth (bytesOf (nth T3 2)) 0 = 34 := rfl
  rw [e0, e1, e2]; simp [sumC, extraL]
theorem ofBytes_bytesOf (s : ByteArray) : ofBytes (bytesOf s) = s := by
  have e : ∀ l : List UInt8, (l.map fun b => (b.toNat : Int)).map (fun n => UInt8.ofNat n.toNat) = l := by
    intro l
    induction l with
    | nil => rfl
    | cons b l ih => rw [List.map_cons, List.map_cons, ih]; congr 1; show UInt8.ofNat b.toNat = b; exact UInt8.ofNat_toNat
  show (⟨_⟩ : ByteArray) = s
  unfold bytesOf
  rw [e]
theorem esc_take_le (l : List Int) (i : Nat) : (escL (l.take i)).length ≤ (escL l).length := by
  conv => rhs; rw [← List.take_append_drop i l, escL_append, List.length_append]
  omega
theorem esc_take_succ {l : List Int} {i : Nat} (h : i < l.length) : escL (l.take (i + 1)) = escL (l.take i) ++ escU (nth l i) := by
  rw [takeB h, escL_append]; simp [escL]
theorem extra_take_succ {l : List Int} {i : Nat} (h : i < l.length) : extraL (l.take (i + 1)) = extraL (l.take i) + extraL [nth l i] := by
  rw [takeB h, extraL_append]
theorem fill_copy {pre ys : List Int} {N : Nat} (h : pre.length + ys.length ≤ N) : (pre ++ List.replicate (N - pre.length) (0 : Int)).take pre.length ++ ys ++ (pre ++ List.replicate (N - pre.length) (0 : Int)).drop (pre.length + ys.length) = (pre ++ ys) ++ List.replicate (N - (pre ++ ys).length) 0 := by
  rw [List.take_left, List.drop_append, List.drop_of_length_le (by omega), List.nil_append, List.drop_replicate, List.length_append]
  congr 2; omega
theorem fill_put {pre : List Int} {N : Nat} {b : Int} (h : pre.length + 1 ≤ N) : (pre ++ List.replicate (N - pre.length) (0 : Int)).set pre.length b = (pre ++ [b]) ++ List.replicate (N - (pre ++ [b]).length) 0 := by
  rw [List.set_append_right _ _ (Nat.le_refl _), Nat.sub_self]
  obtain ⟨k, hk⟩ : ∃ k, N - pre.length = k + 1 := ⟨N - pre.length - 1, by omega⟩
  rw [hk, List.replicate_succ, List.set_cons_zero, List.length_append, List.append_assoc]
  congr 2
  show _ = List.replicate (N - (pre.length + 1)) 0
  congr 1; omega
section
variable {ro : Option Nat} {N : Nat} {ds : List Deferred} {h0 : PH} {w0 : World} {r : PH} {E : Env} {L : List SP} {d : Option Nat} {ty : Nat} {pos : String} {af : Array Edge} {g : Option (Nat × Bool)}
theorem step_count {x y : Operand} {s : ByteArray} {c : Int} {ts : Array Nat} (hx : Sub (opTy E x) (tV (.string s))) (hy : Sub (opTy E y) (tV (.int .u8 c))) (hc : 0 ≤ c ∧ c < 256) :
    Step1 ⟨prog, ro, N, ds, h0, w0, r⟩ ⟨d, .call { callee := .value (.func 229), args := #[x, y], argTypes := ts }, ty, pos, af, g⟩ E L (tV (.int .i64 ((bytesOf s).count c : Nat))) :=
  Step.of_same (by intro c h; cases h) fun a w h hw fr => by
    have h1 : a.eval x = .string s := fr.get hx
    have h2 : a.eval y = .int .u8 c := fr.get hy
    refine ⟨_, ?_, rfl⟩
    have hr := run_callFunc_extern (P := prog) func229 (by kernel_rfl) (by kernel_rfl) (by kernel_rfl) (e := Extern.BytealgCount.count) (by kernel_rfl) #[.string s, .int .u8 c] w
    rw [Lib.run_countString] at hr
    have e : Lib.countByte s.data.toList c.toNat.toUInt8 = (bytesOf s).count c := count_bytes _ _ hc
    rw [e] at hr
    simp only [execOp, resolve, show a.eval (.func 229) = .func (.func 229) #[] #[] from rfl, Deferred.ofValue]
    simp [invoke, h1, h2, hr, Result.andThen]
theorem step_neq_rep {T U e : Nat} {x : Operand} {xs : List Int} (hu : prog.underlying T = some (.slice e)) (hx : Sub (opTy E x) (tRep xs)) :
    Step1 ⟨prog, ro, N, ds, h0, w0, r⟩ ⟨d, .binOp .neq T x (.const (.slice none 0 0)) U, ty, pos, af, g⟩ E L (tV (.bool (!decide (xs = [])))) :=
  Step.of_same (by intro c h; cases h) fun a w h hw fr => by
    obtain ⟨ao, len, cap, hv, hn⟩ : ∃ ao len cap, a.eval x = .slice ao len cap ∧ ao.isNone = decide (xs = []) := by
      have hp := fr.get hx
      cases xs with
      | nil => exact ⟨none, 0, 0, hp, rfl⟩
      | cons z zs =>
        obtain ⟨ao, cap, hv, H⟩ := hp
        obtain ⟨b, off, rfl, _⟩ := H (by simp)
        exact ⟨_, _, _, hv, rfl⟩
    refine ⟨.bool (!ao.isNone), ?_, by rw [hn]; rfl⟩
    have he : ∀ w, (eqGuard .neq T x (.const (.slice none 0 0)) (a.eval x) (.slice none 0 0)).run prog w = .ok () w := by intro w; rw [hv]; simp [eqGuard]
    have h2 : a.eval (.const (.slice none 0 0)) = .slice none 0 0 := rfl
    have hr := Go.run_neq_slice_nil (P := prog) w T e ao len cap hu
    rw [hv] at he
    simp [execOp, hv, h2, Sem.run_bind, he, hr]
end
theorem buildOnce_spec (b : Nat) : Spec (X := Unit) prog 135 [tAt b 0] ([box b 213 (rStruct fsRpl) (once 0 1, false, six)]) (fun _ => tTup []) (fun _ => [box b 213 (rStruct fsRpl) (once 0 1, true, [])]) := by
 refine Spec.enter func135 rfl rfl fun h0 w0 fr0 => ?_
 refine Jr (Jm rfl (Jm rfl ?_))
 refine Jx rfl (step_call zS (build_spec b) ⟨Sr, trivial⟩ call151) fun v4 => ?_
 refine Js rfl (step_nilCheck Sr) (Js rfl (step_fieldAddr_own so213 Sr rfl) ?_)
 refine Ju (step_store_fld (R := rOI) (z := true) (y := ((once 0 1, false, six) : GRpl)) (y' := ((once 0 1, true, six) : GRpl)) ty211 Sr Sr zS ⟨rfl, fun h cs r => r, rfl, by intro g hg; simp at hg; subst hg; rfl⟩) fun _ => ?_
 refine JL_nil (J_region (Jm rfl (Js rfl (step_nilCheck Sr) (Js rfl (step_fieldAddr_own so213 Sr rfl) ?_))))
 refine Ju (step_store_fld (R := rSl rStr) (z := []) (y := ((once 0 1, true, six) : GRpl)) (y' := ((once 0 1, true, []) : GRpl)) ty198 Sr Sub.nilsl zS ⟨rfl, rfl, fun h cs r => r, rfl, by intro g hg; cases hg⟩) fun _ => ?_
 refine JL_nil ?_
 refine K_end0 rfl () Sr
theorem Count1_spec (s x : ByteArray) (hx : x.size = 1) : Fun1 prog 227 [tV (.string s), tV (.string x)] (tV (.int .i64 ((bytesOf s).count (nth (bytesOf x) 0) : Nat))) := by
 refine Spec.enter func227 rfl rfl fun h0 w0 fr0 => ?_
 have hk : 0 ≤ nth (bytesOf x) 0 ∧ nth (bytesOf x) 0 < 256 := bytesOf_rng _ _ (nth_mem (by rw [bytesOf_len]; omega))
 refine Jr (Ja rfl (JL_nil (J_seq (Jr (Jm rfl ?_)))))
 refine Js rfl (step_len_str underlying9 Sr) (Js rfl (step_eql Sr Sr) (JL_nil ?_))
 refine J_cond Sr (fun h9 => ?_) (fun h9 => ?_)
 ·
  try simp only [NF] at h9
  exfalso; omega
 try simp only [NF] at h9
 refine J_skip (J_seq (Jr (Jm rfl (Js rfl (step_len_str underlying9 Sr) (Js rfl (step_eql Sr Sr) ?_)))))
 refine JL_nil ?_
 refine J_cond Sr (fun h15 => ?_) (fun h15 => ?_)
 ·
  try simp only [NF] at h15
  refine Jr (Jm rfl (Jm rfl ?_))
  refine Js rfl (step_index_str (i := 0) underlying9 Sr Sr (by rfl) zG) ?_
  refine Js rfl (step_count Sr Sr hk) (Ja rfl (JL_nil (J_ret ?_)))
  exact K_ret1 (t := 4) rfl () Sr
 try simp only [NF] at h15
 exfalso; omega
set_option maxHeartbeats 4000000 in
theorem BsrReplace_spec (s : ByteArray) (hs : s.size ≤ 1000000) : Fun1 prog 225 [tPtr (rStruct fsB2) (R3, T3), tV (.string s)] (tV (.string (ofBytes (escL (bytesOf s))))) := by
 refine Spec.enter func225 rfl rfl fun h0 w0 fr0 => ?_
 have hbl := bytesOf_len s
 have hT3 : T3.length = 3 := rfl
 have hLn := escL_length (bytesOf s)
 have hx3 := sumC_3 (bytesOf s)
 have hxl := extraL_le (bytesOf s)
 refine Jr (Ja rfl (JL_nil (Jr (Jm rfl (Js rfl (step_len_str underlying9 Sr) ?_)))))
 refine Ja rfl (JL_nil (Jr (Ja rfl (JL_nil (J_seq ?_)))))
 refine Jr (Jm rfl (Js rfl (step_nilCheckP Sr) (Js rfl (step_fieldAddr so245 Sr rfl) (Js rfl (step_load_ptr (R := rSl rStr) (y := T3) ty198 Sr) (Js rfl (step_len_sl (xs := T3) underlying198 Sr) ?_)))))
 refine Js rfl (step_mul Sr Sr z6) (Jm rfl (Js rfl (step_len_str underlying9 Sr) (Js rfl (step_leq Sr Sr) (JL_nil ?_))))
 refine J_cond Sr (fun h26 => ?_) (fun h26 => ?_)
 ·
  try simp only [NF] at h26
  refine Jr (Jm rfl (Js rfl (step_nilCheckP Sr) (Js rfl (step_fieldAddr so245 Sr rfl) (Js rfl (step_load_ptr (R := rSl rStr) (y := T3) ty198 Sr) (Js rfl (step_len_sl (xs := T3) underlying198 Sr) ?_)))))
  refine Jm rfl (JL_nil (J_block ?_))
  refine J_loopL (σ := Nat × Int × Bool) (fun ⟨j, n, al⟩ => j ≤ 3 ∧ n = (s.size : Int) + sumC (bytesOf s) j ∧ al = decide (0 < sumC (bytesOf s) j) ∧ sumC (bytesOf s) j ≤ j * s.size) (fun ⟨j, n, al⟩ => upd (upd (upd (upd (upd (upd (upd env0 0 (tPtr (rStruct fsB2) (R3, T3))) 1 (tV (.string s))) 5 (tV (.int .i64 n))) 6 (tV (.bool al))) 30 (tSl rStr T3)) 31 (tV (.int .i64 T3.length))) 32 (tV (.int .i64 j))) (fun ⟨j, n, al⟩ => []) (fun ⟨j, n, al⟩ => 3 - j) (0, (s.size : Int), false) ⟨by omega, by simp [sumC], by simp [sumC], by simp [sumC]⟩ (zU) (LSub.rfl) ?_
  rintro ⟨j, n, al⟩ ⟨hj, hn5, hn6, hcb⟩
  refine Jr (Js rfl (step_lss Sr Sr) (JL_nil (J_seq ?_)))
  refine J_cond Sr (fun h33 => ?_) (fun h33 => ?_)
  ·
   try simp only [NF] at h33
   have hj3 : j < 3 := by omega
   have hk : 0 ≤ (nth (bytesOf (nth T3 j)) 0) ∧ (nth (bytesOf (nth T3 j)) 0) < 256 := bytesOf_rng _ _ (nth_mem (by rw [bytesOf_len, t3_one j hj3]; decide))
   have hr2 := t3_rep j hj3
   have hcb2 : j * s.size ≤ 3 * 1000000 := Nat.mul_le_mul zG hs
   have hcs := sumC_succ (bytesOf s) j
   have hcl := List.count_le_length (a := (nth (bytesOf (nth T3 j)) 0)) (l := (bytesOf s))
   refine J_skip (J_seq (J_block (Jr ?_)))
   refine Js rfl (step_indexAddr_sl  underlying198 ty9 Sr Sr rfl (gb (by show j < 3; exact hj3))) ?_
   refine Jl rfl ty9 Sr (Ja rfl (JL_nil (Jr (Jm rfl (Jm rfl ?_)))))
   refine Js rfl (step_call0 (Count1_spec s (nth T3 j) (t3_one j hj3)) ⟨Sr, Sr, trivial⟩ call227) (Ja rfl (JL_nil (Jr (Jm rfl (Js rfl (step_neq Sr Sr) ?_)))))
   refine JL_nil ?_
   refine J_cond Sr (fun h40 => ?_) (fun h40 => ?_)
   ·
    try simp only [NF] at h40
    refine J_seq ?_
    refine J_draw [⟨0, [5], true⟩, ⟨1, [9], true⟩, ⟨2, [0], true⟩, ⟨3, [8], true⟩, ⟨4, [44], true⟩, ⟨5, [43], true⟩, ⟨6, [46], true⟩, ⟨7, [45, 47], true⟩, ⟨8, [48], true⟩, ⟨9, [49], true⟩, ⟨10, [50], true⟩, ⟨11, [42, 51], true⟩, ⟨12, [41, 52], true⟩, ⟨13, [53], true⟩] rfl (by kernel_rfl) ?_
    refine Mv rfl rfl (Mv rfl rfl (Mv rfl rfl (Mv rfl rfl ?_)))
    refine Mf rfl rfl (step_index_str (i := 0) underlying9 Sr Sr (by rfl) (by rw [t3_one j hj3]; decide)) ?_
    refine Mf rfl rfl (step_nilCheckP Sr) (Mf rfl rfl (step_fieldAddr so245 Sr rfl) ?_)
    refine Mf rfl rfl (step_arrIdxP (i := (nth (bytesOf (nth T3 j)) 0).toNat) underlying243 ty149R rfl Sr Sr zG zG) ?_
    refine Mf rfl rfl (step_load_ptr ty149R Sr) ?_
    refine Mf rfl rfl (step_len_sl (xs := nth R3 (nth (bytesOf (nth T3 j)) 0).toNat) underlying149 (Sub.of_eq (tRep_of (by intro q; rw [q] at hr2; simp at hr2)))) ?_
    refine Mf rfl rfl (step_sub Sr Sr z6) ?_
    refine Mf rfl rfl (step_mul Sr Sr (by unfold in64; rw [hr2]; omega)) ?_
    refine Mf rfl rfl (step_add Sr Sr (by unfold in64; rw [hr2]; omega)) ?_
    refine Mf rfl rfl (step_assign Sr) (JM_nil (J_region (Ja rfl (JL_nil (J_region ?_)))))
    refine Js rfl (step_add Sr Sr z6) (Jm rfl (JL_nil ?_))
    refine K_againL (σ := Nat × Int × Bool) (s := (j, n, al)) (j + 1, n + (((bytesOf s).count (nth (bytesOf (nth T3 j)) 0) : Nat) : Int) * ((2 : Nat) - 1), true) zO ⟨by omega, by rw [hcs, hn5]; omega, by rw [hcs]; symm; rw [decide_eq_true_eq]; omega, by rw [hcs, Nat.add_mul]; omega⟩ (.u (.u (.u (.u (SubE.upd (Sub.int (by rw [hr2])) (zU)))))) (LSub.rfl)
   try simp only [NF] at h40
   refine J_skip (J_region (Js rfl (step_add Sr Sr z6) (Jm rfl (JL_nil ?_))))
   refine K_againL (σ := Nat × Int × Bool) (s := (j, n, al)) (j + 1, n, al) zO ⟨by omega, by rw [hcs, hn5]; omega, by rw [hcs, hn6]; congr 1; simp; omega, by rw [hcs, Nat.add_mul]; omega⟩ (zU) (LSub.rfl)
  try simp only [NF] at h33
  obtain rfl : j = 3 := by omega
  rw [hx3] at hn5 hn6
  refine J_exit (J_seq (Jr (Jm rfl (Js rfl (step_not Sr) (JL_nil ?_)))))
  refine J_cond Sr (fun h82 => ?_) (fun h82 => ?_)
  ·
   try simp only [NF] at h82
   refine Jr (Jm rfl (Ja rfl (JL_nil (J_ret ?_))))
   refine K_ret1' (rv := .tmp 4) rfl () (Sel.all _) (.tmp Sr) (Frz.sub ?_)
   refine Sub.v (congrArg Value.string ?_)
   have h0 : extraL (bytesOf s) = 0 := by rw [h82] at hn6; have := hn6.symm; rw [decide_eq_false_iff_not] at this; omega
   rw [escL_same h0, ofBytes_bytesOf]
  try simp only [NF] at h82
  refine J_skip (Jr (Jm rfl ?_))
  refine Jx rfl (step_make (n := (escL (bytesOf s)).length) underlying149 el5 Sr Sr zG zG zG) fun v85 => ?_
  refine Ja rfl (JL_nil (Jr (Ja rfl (JL_nil (J_seq ?_)))))
  refine Jr (Ja rfl (JL_nil (J_block ?_)))
  refine J_loopL (σ := Nat) (fun i => i ≤ s.size) (fun i => upd (upd (upd (upd (upd env0 0 (tPtr (rStruct fsB2) (R3, T3))) 1 (tV (.string s))) 12 (rV.ty v85)) 13 (tV (.int .i64 ((escL ((bytesOf s).take i)).length : Nat)))) 14 (tV (.int .i64 i))) (fun i => [own 5 rU8 v85 ((escL ((bytesOf s).take i)) ++ List.replicate ((escL (bytesOf s)).length - (escL ((bytesOf s).take i)).length) 0)]) (fun i => s.size - i) 0 zG (.u (SubE.upd (Sub.int (by simp [escL])) (zU))) (.c zS (own_eq (by simp [escL])) (LSub.nil)) ?_
  rintro i hi
  refine J_seq (Jr (Jm rfl (Jm rfl (Js rfl (step_len_str underlying9 Sr) (Js rfl (step_lss Sr Sr) ?_)))))
  refine JL_nil ?_
  refine J_cond Sr (fun h89 => ?_) (fun h89 => ?_)
  ·
   try simp only [NF] at h89
   have hlt : i < s.size := by omega
   have hlb : i < (bytesOf s).length := by rw [bytesOf_len]; exact hlt
   have hk : 0 ≤ (nth (bytesOf s) i) ∧ (nth (bytesOf s) i) < 256 := bytesOf_rng _ _ (nth_mem hlb)
   obtain ⟨hr1, hr3⟩ := r3 hk
   have hel := escU_len (nth (bytesOf s) i)
   have hes := esc_take_succ hlb
   have hll : (escL ((bytesOf s).take (i + 1))).length = (escL ((bytesOf s).take i)).length + (escU (nth (bytesOf s) i)).length := by rw [hes, List.length_append]
   have hex := extra_take_succ hlb
   have hle := esc_take_le (bytesOf s) (i + 1)
   have hLt := escL_length ((bytesOf s).take i)
   have hxt := extraL_le ((bytesOf s).take i)
   have htl : ((bytesOf s).take i).length ≤ s.size := by rw [List.length_take, hbl]; omega
   have hLn := escL_length (bytesOf s)
   refine J_skip (J_seq (J_block (Jr (Jm rfl (Jm rfl ?_)))))
   refine Js rfl (step_index_str (i := i) underlying9 Sr Sr (by rfl) (by exact hlt)) ?_
   refine Ja rfl (JL_nil (Jr (Jm rfl (Jm rfl (Js rfl (step_nilCheckP Sr) ?_)))))
   refine Js rfl (step_fieldAddr so245 Sr rfl) ?_
   refine Js rfl (step_arrIdxP (i := (nth (bytesOf s) i).toNat) underlying243 ty149R rfl Sr Sr zG zG) ?_
   refine Jl rfl ty149R Sr (Js rfl (step_neq_rep underlying149 Sr) (JL_nil ?_))
   refine J_cond Sr (fun h101 => ?_) (fun h101 => ?_)
   ·
    try simp only [NF] at h101
    have hne : nth R3 (nth (bytesOf s) i).toNat ≠ [] := by simpa using h101
    have hr2 := hr3.resolve_left hne
    rw [if_neg hne] at hr1
    rw [hr1] at hel hes hll
    refine J_draw [⟨0, [13], true⟩, ⟨1, [12], true⟩, ⟨2, [13], true⟩, ⟨4, [0], true⟩, ⟨5, [15], true⟩, ⟨6, [106], true⟩, ⟨7, [108], true⟩, ⟨8, [107, 109], true⟩, ⟨9, [110], true⟩, ⟨3, [103, 104], false⟩, ⟨10, [105, 111], false⟩, ⟨11, [102, 112], true⟩, ⟨12, [113], true⟩] rfl (by kernel_rfl) ?_
    refine Mv rfl rfl (Mv rfl rfl (Mv rfl rfl (Mv rfl rfl (Mv rfl rfl (Mf rfl rfl (step_nilCheckP Sr) ?_)))))
    refine Mf rfl rfl (step_fieldAddr so245 Sr rfl) ?_
    refine Mf rfl rfl (step_arrIdxP (i := (nth (bytesOf s) i).toNat) underlying243 ty149R rfl Sr Sr zG zG) ?_
    refine Mf rfl rfl (step_load_ptr ty149R Sr) ?_
    refine JM_look rfl rfl rfl rfl (step_slice_tail8 (n := (escL ((bytesOf s).take i)).length) underlying149 ty5 Sr Sr rfl zS (by simp)) ?_
    refine JM_stepX rfl rfl rfl rfl (step_copy_tail8 (ys := nth R3 (nth (bytesOf s) i).toNat) underlying149 (by kernel_rfl) Sr (Sub.of_eq (tRep_of hne)) zS (by simp; omega) hne) fun v112 => ?_
    refine Mf rfl rfl (step_add Sr Sr z6) (Mf rfl rfl (step_assign Sr) (JM_nil (J_region (Jm rfl (Js rfl (step_add Sr Sr z6) ?_)))))
    refine Ja rfl (JL_nil ?_)
    refine K_againL (σ := Nat) (s := i) (i + 1) zO zG (.u (SubE.upd (Sub.int (by rw [hes, List.length_append]; omega)) (zU))) (.c zS (own_eq (by rw [hes]; exact fill_copy (by rw [hes, List.length_append] at hle; exact hle))) (LSub.nil))
   try simp only [NF] at h101
   have hne : nth R3 (nth (bytesOf s) i).toNat = [] := by simpa using h101
   rw [if_pos hne] at hr1
   rw [hr1] at hel hes hll
   refine Jr (Jm rfl (Jm rfl (Jm rfl ?_)))
   refine Js rfl (step_indexAddr_own (i := (escL ((bytesOf s).take i)).length) underlying149 ty5 Sr zS Sr (by rfl) (by simp; omega)) ?_
   refine Ju (step_store_own ty5 Sr Sr zS (by simp; omega)) fun _ => ?_
   refine JL_nil (J_region (Jm rfl (Js rfl (step_add Sr Sr z6) (Ja rfl (JL_nil ?_)))))
   refine J_region (Jm rfl (Js rfl (step_add Sr Sr z6) (Ja rfl (JL_nil ?_))))
   refine K_againL (σ := Nat) (s := i) (i + 1) zO zG (.u (SubE.upd (Sub.int (by rw [hes, List.length_append]; simp)) (zU))) (.c zS (own_eq (by rw [hes]; exact fill_put (by rw [hes, List.length_append] at hle; exact hle))) (LSub.nil))
  try simp only [NF] at h89
  have hie : (bytesOf s).take i = (bytesOf s) := List.take_of_length_le zG
  refine J_exit (Jr (Jm rfl ?_))
  refine Js rfl (step_convert_str underlying149 underlying5 underlying9 Sr zS) ?_
  refine Ja rfl (JL_nil (J_ret ?_))
  refine K_ret1' (rv := .tmp 4) rfl () (Sel.all _) (.tmp Sr) (Frz.sub ?_)
  refine Sub.v (congrArg Value.string ?_)
  rw [hie]; simp
 try simp only [NF] at h26
 refine Jr (Ja rfl (JL_nil (J_block ?_)))
 refine J_loopL (σ := Nat × Int × Bool) (fun ⟨i, n, al⟩ => i ≤ s.size ∧ n = (s.size : Int) + extraL ((bytesOf s).take i) ∧ al = decide (0 < extraL ((bytesOf s).take i))) (fun ⟨i, n, al⟩ => upd (upd (upd (upd (upd env0 0 (tPtr (rStruct fsB2) (R3, T3))) 1 (tV (.string s))) 5 (tV (.int .i64 n))) 6 (tV (.bool al))) 10 (tV (.int .i64 i))) (fun ⟨i, n, al⟩ => []) (fun ⟨i, n, al⟩ => s.size - i) (0, (s.size : Int), false) ⟨by omega, by simp [extraL], by simp [extraL]⟩ (zU) (LSub.rfl) ?_
 rintro ⟨i, n, al⟩ ⟨hi, hn5, hn6⟩
 refine J_seq (Jr (Jm rfl (Jm rfl (Js rfl (step_len_str underlying9 Sr) (Js rfl (step_lss Sr Sr) ?_)))))
 refine JL_nil ?_
 refine J_cond Sr (fun h58 => ?_) (fun h58 => ?_)
 ·
  try simp only [NF] at h58
  have hlt : i < s.size := by omega
  have hlb : i < (bytesOf s).length := by rw [bytesOf_len]; exact hlt
  have hk : 0 ≤ (nth (bytesOf s) i) ∧ (nth (bytesOf s) i) < 256 := bytesOf_rng _ _ (nth_mem hlb)
  obtain ⟨hr1, hr3⟩ := r3 hk
  have hel := escU_len (nth (bytesOf s) i)
  have hes := esc_take_succ hlb
  have hll : (escL ((bytesOf s).take (i + 1))).length = (escL ((bytesOf s).take i)).length + (escU (nth (bytesOf s) i)).length := by rw [hes, List.length_append]
  have hex := extra_take_succ hlb
  have hle := esc_take_le (bytesOf s) (i + 1)
  have hLt := escL_length ((bytesOf s).take i)
  have hxt := extraL_le ((bytesOf s).take i)
  have htl : ((bytesOf s).take i).length ≤ s.size := by rw [List.length_take, hbl]; omega
  have hLn := escL_length (bytesOf s)
  refine J_skip (J_seq (J_block (Jr (Jm rfl (Jm rfl ?_)))))
  refine Js rfl (step_index_str (i := i) underlying9 Sr Sr (by rfl) (by exact hlt)) ?_
  refine Ja rfl (JL_nil (Jr (Jm rfl (Jm rfl (Js rfl (step_nilCheckP Sr) ?_)))))
  refine Js rfl (step_fieldAddr so245 Sr rfl) ?_
  refine Js rfl (step_arrIdxP (i := (nth (bytesOf s) i).toNat) underlying243 ty149R rfl Sr Sr zG zG) ?_
  refine Jl rfl ty149R Sr (Js rfl (step_neq_rep underlying149 Sr) (JL_nil ?_))
  refine J_cond Sr (fun h70 => ?_) (fun h70 => ?_)
  ·
   try simp only [NF] at h70
   have hne : nth R3 (nth (bytesOf s) i).toNat ≠ [] := by simpa using h70
   have hr2 := hr3.resolve_left hne
   rw [if_neg hne] at hr1
   rw [hr1] at hel
   refine Jr (Jm rfl (Jm rfl (Jm rfl (Js rfl (step_nilCheckP Sr) (Js rfl (step_fieldAddr so245 Sr rfl) ?_)))))
   refine Js rfl (step_arrIdxP (i := (nth (bytesOf s) i).toNat) underlying243 ty149R rfl Sr Sr zG zG) ?_
   refine Jl rfl ty149R Sr ?_
   refine Js rfl (step_len_sl (xs := nth R3 (nth (bytesOf s) i).toNat) underlying149 (Sub.of_eq (tRep_of (by intro q; rw [q] at hr2; simp at hr2)))) ?_
   refine Js rfl (step_sub Sr Sr z6) (Js rfl (step_add Sr Sr z6) (Ja rfl (JL_nil (J_region (Ja rfl ?_)))))
   refine JL_nil (J_region (Jm rfl (Js rfl (step_add Sr Sr z6) (Ja rfl (JL_nil ?_)))))
   refine K_againL (σ := Nat × Int × Bool) (s := (i, n, al)) (i + 1, n + 1, true) zO ⟨by omega, by rw [hex, hn5]; omega, by rw [hex]; symm; rw [decide_eq_true_eq]; omega⟩ (.u (.u (SubE.upd (Sub.int (by rw [hr2]; omega)) (zU)))) (LSub.rfl)
  try simp only [NF] at h70
  have hne : nth R3 (nth (bytesOf s) i).toNat = [] := by simpa using h70
  rw [if_pos hne] at hr1
  rw [hr1] at hel
  refine J_skip (J_region (Jm rfl (Js rfl (step_add Sr Sr z6) (Ja rfl (JL_nil ?_)))))
  refine K_againL (σ := Nat × Int × Bool) (s := (i, n, al)) (i + 1, n, al) zO ⟨by omega, by rw [hex, hn5]; simp at hel; omega, by rw [hex, hn6]; congr 1; simp at hel; simp; omega⟩ (zU) (LSub.rfl)
 try simp only [NF] at h58
 have hie : (bytesOf s).take i = (bytesOf s) := List.take_of_length_le zG
 rw [hie] at hn5 hn6
 refine J_exit (J_seq (Jr (Jm rfl (Js rfl (step_not Sr) (JL_nil ?_)))))
 refine J_cond Sr (fun h82 => ?_) (fun h82 => ?_)
 ·
  try simp only [NF] at h82
  refine Jr (Jm rfl (Ja rfl (JL_nil (J_ret ?_))))
  refine K_ret1' (rv := .tmp 4) rfl () (Sel.all _) (.tmp Sr) (Frz.sub ?_)
  refine Sub.v (congrArg Value.string ?_)
  have h0 : extraL (bytesOf s) = 0 := by rw [h82] at hn6; have := hn6.symm; rw [decide_eq_false_iff_not] at this; omega
  rw [escL_same h0, ofBytes_bytesOf]
 try simp only [NF] at h82
 refine J_skip (Jr (Jm rfl ?_))
 refine Jx rfl (step_make (n := (escL (bytesOf s)).length) underlying149 el5 Sr Sr zG zG zG) fun v85 => ?_
 refine Ja rfl (JL_nil (Jr (Ja rfl (JL_nil (J_seq ?_)))))
 refine Jr (Ja rfl (JL_nil (J_block ?_)))
 refine J_loopL (σ := Nat) (fun i => i ≤ s.size) (fun i => upd (upd (upd (upd (upd env0 0 (tPtr (rStruct fsB2) (R3, T3))) 1 (tV (.string s))) 12 (rV.ty v85)) 13 (tV (.int .i64 ((escL ((bytesOf s).take i)).length : Nat)))) 14 (tV (.int .i64 i))) (fun i => [own 5 rU8 v85 ((escL ((bytesOf s).take i)) ++ List.replicate ((escL (bytesOf s)).length - (escL ((bytesOf s).take i)).length) 0)]) (fun i => s.size - i) 0 zG (.u (SubE.upd (Sub.int (by simp [escL])) (zU))) (.c zS (own_eq (by simp [escL])) (LSub.nil)) ?_
 rintro i hi
 refine J_seq (Jr (Jm rfl (Jm rfl (Js rfl (step_len_str underlying9 Sr) (Js rfl (step_lss Sr Sr) ?_)))))
 refine JL_nil ?_
 refine J_cond Sr (fun h89 => ?_) (fun h89 => ?_)
 ·
  try simp only [NF] at h89
  have hlt : i < s.size := by omega
  have hlb : i < (bytesOf s).length := by rw [bytesOf_len]; exact hlt
  have hk : 0 ≤ (nth (bytesOf s) i) ∧ (nth (bytesOf s) i) < 256 := bytesOf_rng _ _ (nth_mem hlb)
  obtain ⟨hr1, hr3⟩ := r3 hk
  have hel := escU_len (nth (bytesOf s) i)
  have hes := esc_take_succ hlb
  have hll : (escL ((bytesOf s).take (i + 1))).length = (escL ((bytesOf s).take i)).length + (escU (nth (bytesOf s) i)).length := by rw [hes, List.length_append]
  have hex := extra_take_succ hlb
  have hle := esc_take_le (bytesOf s) (i + 1)
  have hLt := escL_length ((bytesOf s).take i)
  have hxt := extraL_le ((bytesOf s).take i)
  have htl : ((bytesOf s).take i).length ≤ s.size := by rw [List.length_take, hbl]; omega
  have hLn := escL_length (bytesOf s)
  refine J_skip (J_seq (J_block (Jr (Jm rfl (Jm rfl ?_)))))
  refine Js rfl (step_index_str (i := i) underlying9 Sr Sr (by rfl) (by exact hlt)) ?_
  refine Ja rfl (JL_nil (Jr (Jm rfl (Jm rfl (Js rfl (step_nilCheckP Sr) ?_)))))
  refine Js rfl (step_fieldAddr so245 Sr rfl) ?_
  refine Js rfl (step_arrIdxP (i := (nth (bytesOf s) i).toNat) underlying243 ty149R rfl Sr Sr zG zG) ?_
  refine Jl rfl ty149R Sr (Js rfl (step_neq_rep underlying149 Sr) (JL_nil ?_))
  refine J_cond Sr (fun h101 => ?_) (fun h101 => ?_)
  ·
   try simp only [NF] at h101
   have hne : nth R3 (nth (bytesOf s) i).toNat ≠ [] := by simpa using h101
   have hr2 := hr3.resolve_left hne
   rw [if_neg hne] at hr1
   rw [hr1] at hel hes hll
   refine J_draw [⟨0, [13], true⟩, ⟨1, [12], true⟩, ⟨2, [13], true⟩, ⟨4, [0], true⟩, ⟨5, [15], true⟩, ⟨6, [106], true⟩, ⟨7, [108], true⟩, ⟨8, [107, 109], true⟩, ⟨9, [110], true⟩, ⟨3, [103, 104], false⟩, ⟨10, [105, 111], false⟩, ⟨11, [102, 112], true⟩, ⟨12, [113], true⟩] rfl (by kernel_rfl) ?_
   refine Mv rfl rfl (Mv rfl rfl (Mv rfl rfl (Mv rfl rfl (Mv rfl rfl (Mf rfl rfl (step_nilCheckP Sr) ?_)))))
   refine Mf rfl rfl (step_fieldAddr so245 Sr rfl) ?_
   refine Mf rfl rfl (step_arrIdxP (i := (nth (bytesOf s) i).toNat) underlying243 ty149R rfl Sr Sr zG zG) ?_
   refine Mf rfl rfl (step_load_ptr ty149R Sr) ?_
   refine JM_look rfl rfl rfl rfl (step_slice_tail8 (n := (escL ((bytesOf s).take i)).length) underlying149 ty5 Sr Sr rfl zS (by simp)) ?_
   refine JM_stepX rfl rfl rfl rfl (step_copy_tail8 (ys := nth R3 (nth (bytesOf s) i).toNat) underlying149 (by kernel_rfl) Sr (Sub.of_eq (tRep_of hne)) zS (by simp; omega) hne) fun v112 => ?_
   refine Mf rfl rfl (step_add Sr Sr z6) (Mf rfl rfl (step_assign Sr) (JM_nil (J_region (Jm rfl (Js rfl (step_add Sr Sr z6) ?_)))))
   refine Ja rfl (JL_nil ?_)
   refine K_againL (σ := Nat) (s := i) (i + 1) zO zG (.u (SubE.upd (Sub.int (by rw [hes, List.length_append]; omega)) (zU))) (.c zS (own_eq (by rw [hes]; exact fill_copy (by rw [hes, List.length_append] at hle; exact hle))) (LSub.nil))
  try simp only [NF] at h101
  have hne : nth R3 (nth (bytesOf s) i).toNat = [] := by simpa using h101
  rw [if_pos hne] at hr1
  rw [hr1] at hel hes hll
  refine Jr (Jm rfl (Jm rfl (Jm rfl ?_)))
  refine Js rfl (step_indexAddr_own (i := (escL ((bytesOf s).take i)).length) underlying149 ty5 Sr zS Sr (by rfl) (by simp; omega)) ?_
  refine Ju (step_store_own ty5 Sr Sr zS (by simp; omega)) fun _ => ?_
  refine JL_nil (J_region (Jm rfl (Js rfl (step_add Sr Sr z6) (Ja rfl (JL_nil ?_)))))
  refine J_region (Jm rfl (Js rfl (step_add Sr Sr z6) (Ja rfl (JL_nil ?_))))
  refine K_againL (σ := Nat) (s := i) (i + 1) zO zG (.u (SubE.upd (Sub.int (by rw [hes, List.length_append]; simp)) (zU))) (.c zS (own_eq (by rw [hes]; exact fill_put (by rw [hes, List.length_append] at hle; exact hle))) (LSub.nil))
 try simp only [NF] at h89
 have hie : (bytesOf s).take i = (bytesOf s) := List.take_of_length_le zG
 refine J_exit (Jr (Jm rfl ?_))
 refine Js rfl (step_convert_str underlying149 underlying5 underlying9 Sr zS) ?_
 refine Ja rfl (JL_nil (J_ret ?_))
 refine K_ret1' (rv := .tmp 4) rfl () (Sel.all _) (.tmp Sr) (Frz.sub ?_)
 refine Sub.v (congrArg Value.string ?_)
 rw [hie]; simp
open Go
/-- The table in the world. -/
theorem inv_tab {P : Program} (hg : P.globalNamed "internal/strconv.uint64pow10" = some tabG) {h : PH} {w : World} (hi : Inv h) (hw : h.inw w) : Lib.TabIs P w "internal/strconv.uint64pow10" .u64 Lib.pow10Tab := by
  obtain ⟨e, fz, q⟩ := hi
  have := hw _ _ q
  simp only [Lib.TabIs, World.var?, hg, Option.bind_some, this]
  rfl
def itoaB (n : Int) : ByteArray := toB (Lib.itoa n)
theorem itoa_spec {P : Program} {ρ : Shelf.Ren} (L : Go.Proofs.LaysM.n171 P ρ) (hg : P.globalNamed "internal/strconv.uint64pow10" = some tabG) (n : Int) (h0 : -9223372036854775808 ≤ n) (h1 : n ≤ 9223372036854775807) :
    Fun1 P (ρ.f 171) [tV (.int .i64 n)] (tV (.string (itoaB n))) := by
  intro vs h m r w ha sp st
  match vs, ha with
  | [u1], ⟨a1, _⟩ =>
  have a1 : u1 = .int .i64 n := a1
  subst a1
  refine (Go.Proofs.Any.strconv_Itoa L n h0 h1 w (inv_tab hg sp.inv sp.hw)).mono ?_
  rintro e w' ⟨rfl, k, os, rfl⟩
  obtain ⟨l, s⟩ := sep_below sp (Go.Proofs.below_grown w k os)
  exact ⟨(), _, h, m, rfl, l, s, st, rfl⟩
end Lg
namespace Go.Proofs
open Go.Shelf
def Tryz.sortK_ren : Go.Shelf.Ren := ⟨fun | 6 => 35 | 15 => 60 | 14 => 59 | 28 => 85 | 29 => 86 | 20 => 77 | 21 => 78 | 22 => 79 | 23 => 80 | 24 => 81 | 25 => 82 | 26 => 83 | 27 => 84 | 46 => 104 | 47 => 105 | 48 => 106 | 49 => 107 | 50 => 108 | 57 => 127 | n => n, fun | 22 => 45 | 24 => 33 | 25 => 80 | 3 => 3 | 39 => 117 | 0 => 0 | 53 => 144 | 55 => 146 | 4 => 4 | 46 => 137 | 45 => 136 | 50 => 141 | 5 => 5 | 9 => 9 | 66 => 171 | 70 => 175 | 76 => 192 | 77 => 193 | n => n, fun | n => n⟩
theorem Tryz.sortK : Go.Proofs.SlLaysF.n6 Tryz.prog Tryz.sortK_ren := {
  mixed := by kernel_rfl
  f6 := ⟨Tryz.f35.name, by decide, Tryz.func35.trans (congrArg some (by kernel_rfl))⟩
  f14 := ⟨Tryz.f59.name, by decide, Tryz.func59.trans (congrArg some (by kernel_rfl))⟩
  f15 := Tryz.func60.trans (congrArg some (by kernel_rfl))
  f20 := ⟨Tryz.f77.name, by decide, Tryz.func77.trans (congrArg some (by kernel_rfl))⟩
  f21 := ⟨Tryz.f78.name, by decide, Tryz.func78.trans (congrArg some (by kernel_rfl))⟩
  f22 := ⟨Tryz.f79.name, by decide, Tryz.func79.trans (congrArg some (by kernel_rfl))⟩
  f23 := ⟨Tryz.f80.name, by decide, Tryz.func80.trans (congrArg some (by kernel_rfl))⟩
  f24 := ⟨Tryz.f81.name, by decide, Tryz.func81.trans (congrArg some (by kernel_rfl))⟩
  f25 := ⟨Tryz.f82.name, by decide, Tryz.func82.trans (congrArg some (by kernel_rfl))⟩
  f26 := ⟨Tryz.f83.name, by decide, Tryz.func83.trans (congrArg some (by kernel_rfl))⟩
  f27 := ⟨Tryz.f84.name, by decide, Tryz.func84.trans (congrArg some (by kernel_rfl))⟩
  f28 := Tryz.func85.trans (congrArg some (by kernel_rfl))
  f29 := Tryz.func86.trans (congrArg some (by kernel_rfl))
  f46 := ⟨Tryz.f104.name, by decide, Tryz.func104.trans (congrArg some (by kernel_rfl))⟩
  f47 := Tryz.func105.trans (congrArg some (by kernel_rfl))
  f48 := Tryz.func106.trans (congrArg some (by kernel_rfl))
  f49 := ⟨Tryz.f107.name, by decide, Tryz.func107.trans (congrArg some (by kernel_rfl))⟩
  f50 := ⟨Tryz.f108.name, by decide, Tryz.func108.trans (congrArg some (by kernel_rfl))⟩
  f57 := ⟨Tryz.f127.name, by decide, Tryz.func127.trans (congrArg some (by kernel_rfl))⟩
  t0 := Tryz.underlying0
  a0 := Tryz.isAgg0
  z0 := Tryz.sizeOf0
  v0 := Tryz.zeroValue0
  t3 := Tryz.underlying3
  a3 := Tryz.isAgg3
  z3 := Tryz.sizeOf3
  v3 := Tryz.zeroValue3
  t4 := Tryz.underlying4
  a4 := Tryz.isAgg4
  z4 := Tryz.sizeOf4
  v4 := Tryz.zeroValue4
  t5 := Tryz.underlying5
  a5 := Tryz.isAgg5
  z5 := Tryz.sizeOf5
  v5 := Tryz.zeroValue5
  t9 := Tryz.underlying9
  a9 := Tryz.isAgg9
  z9 := Tryz.sizeOf9
  v9 := Tryz.zeroValue9
  t22 := Tryz.underlying45
  a22 := Tryz.isAgg45
  z22 := Tryz.sizeOf45
  v22 := Tryz.zeroValue45
  a24 := Tryz.isAgg33
  z24 := Tryz.sizeOf33
  t25 := Tryz.underlying80
  a25 := Tryz.isAgg80
  z25 := Tryz.sizeOf80
  v25 := Tryz.zeroValue80
  t39 := Tryz.underlying117
  a39 := Tryz.isAgg117
  z39 := Tryz.sizeOf117
  v39 := Tryz.zeroValue117
  t45 := Tryz.underlying136
  a45 := Tryz.isAgg136
  z45 := Tryz.sizeOf136
  v45 := Tryz.zeroValue136
  t46 := Tryz.underlying137
  a46 := Tryz.isAgg137
  z46 := Tryz.sizeOf137
  v46 := Tryz.zeroValue137
  t50 := Tryz.underlying141
  a50 := Tryz.isAgg141
  z50 := Tryz.sizeOf141
  v50 := Tryz.zeroValue141
  t53 := Tryz.underlying144
  a53 := Tryz.isAgg144
  z53 := Tryz.sizeOf144
  v53 := Tryz.zeroValue144
  t55 := Tryz.underlying146
  a55 := Tryz.isAgg146
  z55 := Tryz.sizeOf146
  v55 := Tryz.zeroValue146
  t66 := Tryz.underlying171
  a66 := Tryz.isAgg171
  z66 := Tryz.sizeOf171
  v66 := Tryz.zeroValue171
  t70 := Tryz.underlying175
  a70 := Tryz.isAgg175
  z70 := Tryz.sizeOf175
  v70 := Tryz.zeroValue175
  t76 := Tryz.underlying192
  a76 := Tryz.isAgg192
  z76 := Tryz.sizeOf192
  v76 := Tryz.zeroValue192
  t77 := Tryz.underlying193
  a77 := Tryz.isAgg193
  z77 := Tryz.sizeOf193
  v77 := Tryz.zeroValue193 }
def Tryz.sortJ_ren : Go.Shelf.Ren := ⟨fun | 189 => 92 | 125 => 60 | 257 => 118 | 128 => 85 | 129 => 86 | 294 => 138 | 295 => 139 | 296 => 140 | 297 => 141 | 298 => 142 | 299 => 143 | 216 => 144 | 300 => 145 | 301 => 146 | 328 => 153 | 329 => 105 | 330 => 106 | 331 => 154 | 332 => 155 | 215 => 87 | 343 => 166 | n => n, fun | 28 => 33 | 3 => 3 | 46 => 117 | 0 => 0 | 51 => 144 | 53 => 146 | 4 => 4 | 183 => 137 | 182 => 136 | 131 => 141 | 5 => 5 | 9 => 9 | 218 => 171 | 222 => 175 | 228 => 192 | 229 => 193 | n => n, fun | n => n⟩
theorem Tryz.sortJ : Go.Proofs.Lays.n189 Tryz.prog Tryz.sortJ_ren := {
  mixed := by kernel_rfl
  f125 := Tryz.func60.trans (congrArg some (by kernel_rfl))
  f128 := Tryz.func85.trans (congrArg some (by kernel_rfl))
  f129 := Tryz.func86.trans (congrArg some (by kernel_rfl))
  f189 := Tryz.func92.trans (congrArg some (by kernel_rfl))
  f215 := Tryz.func87.trans (congrArg some (by kernel_rfl))
  f216 := Tryz.func144.trans (congrArg some (by kernel_rfl))
  f257 := Tryz.func118.trans (congrArg some (by kernel_rfl))
  f294 := Tryz.func138.trans (congrArg some (by kernel_rfl))
  f295 := Tryz.func139.trans (congrArg some (by kernel_rfl))
  f296 := Tryz.func140.trans (congrArg some (by kernel_rfl))
  f297 := Tryz.func141.trans (congrArg some (by kernel_rfl))
  f298 := Tryz.func142.trans (congrArg some (by kernel_rfl))
  f299 := Tryz.func143.trans (congrArg some (by kernel_rfl))
  f300 := Tryz.func145.trans (congrArg some (by kernel_rfl))
  f301 := Tryz.func146.trans (congrArg some (by kernel_rfl))
  f328 := Tryz.func153.trans (congrArg some (by kernel_rfl))
  f329 := Tryz.func105.trans (congrArg some (by kernel_rfl))
  f330 := Tryz.func106.trans (congrArg some (by kernel_rfl))
  f331 := Tryz.func154.trans (congrArg some (by kernel_rfl))
  f332 := Tryz.func155.trans (congrArg some (by kernel_rfl))
  f343 := Tryz.func166.trans (congrArg some (by kernel_rfl))
  t0 := Tryz.underlying0
  a0 := Tryz.isAgg0
  z0 := Tryz.sizeOf0
  v0 := Tryz.zeroValue0
  t3 := Tryz.underlying3
  a3 := Tryz.isAgg3
  z3 := Tryz.sizeOf3
  v3 := Tryz.zeroValue3
  t4 := Tryz.underlying4
  a4 := Tryz.isAgg4
  z4 := Tryz.sizeOf4
  v4 := Tryz.zeroValue4
  t5 := Tryz.underlying5
  a5 := Tryz.isAgg5
  z5 := Tryz.sizeOf5
  v5 := Tryz.zeroValue5
  t9 := Tryz.underlying9
  a9 := Tryz.isAgg9
  z9 := Tryz.sizeOf9
  v9 := Tryz.zeroValue9
  t28 := Tryz.underlying33
  a28 := Tryz.isAgg33
  z28 := Tryz.sizeOf33
  v28 := Tryz.zeroValue33
  t46 := Tryz.underlying117
  a46 := Tryz.isAgg117
  z46 := Tryz.sizeOf117
  v46 := Tryz.zeroValue117
  t51 := Tryz.underlying144
  a51 := Tryz.isAgg144
  z51 := Tryz.sizeOf144
  v51 := Tryz.zeroValue144
  t53 := Tryz.underlying146
  a53 := Tryz.isAgg146
  z53 := Tryz.sizeOf146
  v53 := Tryz.zeroValue146
  t131 := Tryz.underlying141
  a131 := Tryz.isAgg141
  z131 := Tryz.sizeOf141
  v131 := Tryz.zeroValue141
  t182 := Tryz.underlying136
  a182 := Tryz.isAgg136
  z182 := Tryz.sizeOf136
  v182 := Tryz.zeroValue136
  t183 := Tryz.underlying137
  a183 := Tryz.isAgg137
  z183 := Tryz.sizeOf137
  v183 := Tryz.zeroValue137
  t218 := Tryz.underlying171
  a218 := Tryz.isAgg171
  z218 := Tryz.sizeOf171
  v218 := Tryz.zeroValue171
  t222 := Tryz.underlying175
  a222 := Tryz.isAgg175
  z222 := Tryz.sizeOf175
  v222 := Tryz.zeroValue175
  t228 := Tryz.underlying192
  a228 := Tryz.isAgg192
  z228 := Tryz.sizeOf192
  v228 := Tryz.zeroValue192
  t229 := Tryz.underlying193
  a229 := Tryz.isAgg193
  z229 := Tryz.sizeOf193
  v229 := Tryz.zeroValue193 }
def Tryz.itoaL_ren : Go.Shelf.Ren := ⟨fun | 171 => 116 | 243 => 136 | 246 => 152 | 283 => 156 | 284 => 157 | 285 => 158 | 286 => 159 | 129 => 86 | 317 => 167 | 318 => 168 | 319 => 169 | 320 => 170 | 337 => 177 | 338 => 178 | n => n, fun | 3 => 3 | 9 => 9 | 2 => 2 | 4 => 4 | 171 => 228 | 0 => 0 | 53 => 146 | 37 => 149 | 5 => 5 | 173 => 230 | 212 => 249 | 51 => 144 | 20 => 20 | 213 => 250 | 46 => 117 | 232 => 275 | 233 => 276 | n => n, fun | 17 => 0 | 18 => 1 | 19 => 2 | n => n⟩
theorem Tryz.itoaL : Go.Proofs.LaysM.n171 Tryz.prog Tryz.itoaL_ren := {
  mixed := by kernel_rfl
  f129 := Tryz.func86.trans (congrArg some (by kernel_rfl))
  f171 := Tryz.func116.trans (congrArg some (by kernel_rfl))
  f243 := Tryz.func136.trans (congrArg some (by kernel_rfl))
  f246 := Tryz.func152.trans (congrArg some (by kernel_rfl))
  f283 := Tryz.func156.trans (congrArg some (by kernel_rfl))
  f284 := Tryz.func157.trans (congrArg some (by kernel_rfl))
  f285 := Tryz.func158.trans (congrArg some (by kernel_rfl))
  f286 := Tryz.func159.trans (congrArg some (by kernel_rfl))
  f317 := Tryz.func167.trans (congrArg some (by kernel_rfl))
  f318 := Tryz.func168.trans (congrArg some (by kernel_rfl))
  f319 := Tryz.func169.trans (congrArg some (by kernel_rfl))
  f320 := Tryz.func170.trans (congrArg some (by kernel_rfl))
  f337 := Tryz.func177.trans (congrArg some (by kernel_rfl))
  f338 := Tryz.func178.trans (congrArg some (by kernel_rfl))
  t0 := Tryz.underlying0
  a0 := Tryz.isAgg0
  z0 := Tryz.sizeOf0
  v0 := Tryz.zeroValue0
  t2 := Tryz.underlying2
  a2 := Tryz.isAgg2
  z2 := Tryz.sizeOf2
  v2 := Tryz.zeroValue2
  t3 := Tryz.underlying3
  a3 := Tryz.isAgg3
  z3 := Tryz.sizeOf3
  v3 := Tryz.zeroValue3
  t4 := Tryz.underlying4
  a4 := Tryz.isAgg4
  z4 := Tryz.sizeOf4
  v4 := Tryz.zeroValue4
  t5 := Tryz.underlying5
  a5 := Tryz.isAgg5
  z5 := Tryz.sizeOf5
  v5 := Tryz.zeroValue5
  t9 := Tryz.underlying9
  a9 := Tryz.isAgg9
  z9 := Tryz.sizeOf9
  v9 := Tryz.zeroValue9
  t20 := Tryz.underlying20
  a20 := Tryz.isAgg20
  z20 := Tryz.sizeOf20
  v20 := Tryz.zeroValue20
  t37 := Tryz.underlying149
  a37 := Tryz.isAgg149
  z37 := Tryz.sizeOf149
  v37 := Tryz.zeroValue149
  t46 := Tryz.underlying117
  a46 := Tryz.isAgg117
  z46 := Tryz.sizeOf117
  v46 := Tryz.zeroValue117
  t51 := Tryz.underlying144
  a51 := Tryz.isAgg144
  z51 := Tryz.sizeOf144
  v51 := Tryz.zeroValue144
  t53 := Tryz.underlying146
  a53 := Tryz.isAgg146
  z53 := Tryz.sizeOf146
  v53 := Tryz.zeroValue146
  t171 := Tryz.underlying228
  a171 := Tryz.isAgg228
  z171 := Tryz.sizeOf228
  v171 := Tryz.zeroValue228
  t173 := Tryz.underlying230
  a173 := Tryz.isAgg230
  z173 := Tryz.sizeOf230
  v173 := Tryz.zeroValue230
  t212 := Tryz.underlying249
  a212 := Tryz.isAgg249
  z212 := Tryz.sizeOf249
  v212 := Tryz.zeroValue249
  t213 := Tryz.underlying250
  a213 := Tryz.isAgg250
  z213 := Tryz.sizeOf250
  t232 := Tryz.underlying275
  a232 := Tryz.isAgg275
  z232 := Tryz.sizeOf275
  v232 := Tryz.zeroValue275
  t233 := Tryz.underlying276
  a233 := Tryz.isAgg276
  z233 := Tryz.sizeOf276
  v233 := Tryz.zeroValue276
  g17 := by kernel_rfl
  g18 := by kernel_rfl
  g19 := by kernel_rfl
  i0 := by kernel_rfl
  i2 := by kernel_rfl
  i3 := by kernel_rfl
  i4 := by kernel_rfl
  i5 := by kernel_rfl
  i9 := by kernel_rfl
  i20 := by kernel_rfl
  i37 := by kernel_rfl
  i46 := by kernel_rfl
  i51 := by kernel_rfl
  i53 := by kernel_rfl
  i171 := by kernel_rfl
  i173 := by kernel_rfl
  i212 := by kernel_rfl
  i232 := by kernel_rfl
  i233 := by kernel_rfl
  m17 := by kernel_rfl
  m18 := by kernel_rfl
  m19 := by kernel_rfl }
def Tryz.cloneW_ren : Go.Shelf.Ren := ⟨fun | 5 => 37 | 7 => 62 | n => n, fun | 23 => 82 | 25 => 3 | 3 => 4 | 4 => 4 | 20 => 20 | n => n, fun | n => n⟩
theorem Tryz.cloneW : Go.Proofs.SlLaysW.n5 Tryz.prog Tryz.cloneW_ren := {
  mixed := by kernel_rfl
  f5 := ⟨Tryz.f37.name, by decide, Tryz.func37.trans (congrArg some (by kernel_rfl))⟩
  f7 := Tryz.func62.trans (congrArg some (by kernel_rfl))
  t4 := Tryz.underlying4
  a4 := Tryz.isAgg4
  z4 := Tryz.sizeOf4
  v4 := Tryz.zeroValue4
  t20 := Tryz.underlying20
  a20 := Tryz.isAgg20
  z20 := Tryz.sizeOf20
  v20 := Tryz.zeroValue20
  t23 := Tryz.underlying82
  a23 := Tryz.isAgg82
  z23 := Tryz.sizeOf82
  v23 := Tryz.zeroValue82 }
end Go.Proofs
