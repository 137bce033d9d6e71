/- The types of the program as representations, and walks of the small functions of value and denial. -/
import Derived.Test.YticgfcbcaalioaaGreatDoorB
import Derived.Test.YticgfcbcaalioaaGreatDoorProg
set_option linter.unusedVariables false
set_option linter.unusedSimpArgs false
set_option linter.unusedSectionVars false
namespace Lg
open Go Go.Proofs
abbrev rU64 : Rp Int := rS (fun n => .int .u64 n) (fun _ => rfl)
abbrev rI32 : Rp Int := rS (fun n => .int .i32 n) (fun _ => rfl)

theorem ty3 : TyOf Tryz.prog 3 rInt := ⟨fun w => Tryz.isAgg3 w, fun w => Tryz.sizeOf3 w⟩
theorem zr3 : ∀ h, (rInt.ty 0).p h (Value.int .i64 0) := fun _ => rfl
theorem el3 : ElT Tryz.prog 3 rInt 8 0 := ⟨ty3, by decide, Tryz.t3, (Value.int .i64 0), by kernel_rfl, by kernel_rfl, by kernel_rfl, by kernel_rfl, zr3⟩
theorem ty9 : TyOf Tryz.prog 9 rStr := ⟨fun w => Tryz.isAgg9 w, fun w => Tryz.sizeOf9 w⟩
theorem zr9 : ∀ h, (rStr.ty ⟨#[]⟩).p h (Value.string ⟨#[]⟩) := fun _ => rfl
theorem el9 : ElT Tryz.prog 9 rStr 16 ⟨#[]⟩ := ⟨ty9, by decide, Tryz.t9, (Value.string ⟨#[]⟩), by kernel_rfl, by kernel_rfl, by kernel_rfl, by kernel_rfl, zr9⟩
theorem ty24 : TyOf Tryz.prog 24 (rSl rInt) := ⟨fun w => Tryz.isAgg24 w, fun w => Tryz.sizeOf24 w⟩
theorem ty24V : TyOf Tryz.prog 24 rV := ⟨fun w => Tryz.isAgg24 w, fun w => Tryz.sizeOf24 w⟩
theorem zr24 : ∀ h, ((rSl rInt).ty []).p h (Value.slice none 0 0) := fun _ => ⟨none, 0, rfl, fun q => absurd rfl q⟩
theorem el24 : ElT Tryz.prog 24 (rSl rInt) 24 [] := ⟨ty24, by decide, Tryz.t24, (Value.slice none 0 0), by kernel_rfl, by kernel_rfl, by kernel_rfl, by kernel_rfl, zr24⟩
structure GValue where
  Kind : Int
  N : Int
  Text : ByteArray
def zValue : GValue := { Kind := 0, N := 0, Text := ⟨#[]⟩ }
instance : Inhabited GValue := ⟨zValue⟩
def fsValue : List (SF GValue) := [⟨Int, 3, rInt, GValue.Kind⟩, ⟨Int, 3, rInt, GValue.N⟩, ⟨ByteArray, 9, rStr, GValue.Text⟩]
abbrev rValue : Rp GValue := rStruct fsValue
theorem ty60 : TyOf Tryz.prog 60 rValue := ⟨fun w => Tryz.isAgg60 w, fun w => Tryz.sizeOf60 w⟩
theorem so60 : StructOf Tryz.prog 60 fsValue := ⟨⟨_, Tryz.underlying60, ⟨rfl, rfl, ty3, by decide, ⟨rfl, rfl, ty3, by decide, ⟨rfl, rfl, ty9, by decide, trivial⟩⟩⟩⟩, ty60⟩
theorem zr60 : ∀ h, (rValue.ty zValue).p h (.agg #[Value.int .i64 0, Value.int .i64 0, Value.string ⟨#[]⟩]) := fun _ => ⟨_, ⟨[Value.int .i64 0], _, rfl, rfl, ⟨[Value.int .i64 0], _, rfl, rfl, ⟨[Value.string ⟨#[]⟩], _, rfl, rfl, rfl⟩⟩⟩, rfl⟩
theorem el60 : ElT Tryz.prog 60 rValue 32 zValue := ⟨ty60, by decide, Tryz.t60, (.agg #[Value.int .i64 0, Value.int .i64 0, Value.string ⟨#[]⟩]), by kernel_rfl, by kernel_rfl, by kernel_rfl, by kernel_rfl, zr60⟩
structure GFixed where
  Col : Int
  Value : GValue
def zFixed : GFixed := { Col := 0, Value := zValue }
instance : Inhabited GFixed := ⟨zFixed⟩
def fsFixed : List (SF GFixed) := [⟨Int, 3, rInt, GFixed.Col⟩, ⟨GValue, 60, rValue, GFixed.Value⟩]
abbrev rFixed : Rp GFixed := rStruct fsFixed
theorem ty64 : TyOf Tryz.prog 64 rFixed := ⟨fun w => Tryz.isAgg64 w, fun w => Tryz.sizeOf64 w⟩
theorem so64 : StructOf Tryz.prog 64 fsFixed := ⟨⟨_, Tryz.underlying64, ⟨rfl, rfl, ty3, by decide, ⟨rfl, rfl, ty60, by decide, trivial⟩⟩⟩, ty64⟩
theorem zr64 : ∀ h, (rFixed.ty zFixed).p h (.agg #[Value.int .i64 0, Value.int .i64 0, Value.int .i64 0, Value.string ⟨#[]⟩]) := fun _ => ⟨_, ⟨[Value.int .i64 0], _, rfl, rfl, ⟨[Value.int .i64 0, Value.int .i64 0, Value.string ⟨#[]⟩], _, rfl, ⟨[Value.int .i64 0], _, rfl, rfl, ⟨[Value.int .i64 0], _, rfl, rfl, ⟨[Value.string ⟨#[]⟩], _, rfl, rfl, rfl⟩⟩⟩, rfl⟩⟩, rfl⟩
theorem el64 : ElT Tryz.prog 64 rFixed 40 zFixed := ⟨ty64, by decide, Tryz.t64, (.agg #[Value.int .i64 0, Value.int .i64 0, Value.int .i64 0, Value.string ⟨#[]⟩]), by kernel_rfl, by kernel_rfl, by kernel_rfl, by kernel_rfl, zr64⟩
theorem ty29 : TyOf Tryz.prog 29 (rSl rFixed) := ⟨fun w => Tryz.isAgg29 w, fun w => Tryz.sizeOf29 w⟩
theorem ty29V : TyOf Tryz.prog 29 rV := ⟨fun w => Tryz.isAgg29 w, fun w => Tryz.sizeOf29 w⟩
theorem zr29 : ∀ h, ((rSl rFixed).ty []).p h (Value.slice none 0 0) := fun _ => ⟨none, 0, rfl, fun q => absurd rfl q⟩
theorem el29 : ElT Tryz.prog 29 (rSl rFixed) 24 [] := ⟨ty29, by decide, Tryz.t29, (Value.slice none 0 0), by kernel_rfl, by kernel_rfl, by kernel_rfl, by kernel_rfl, zr29⟩
structure GSide where
  Var : Int
  Col : Int
  Value : GValue
def zSide : GSide := { Var := 0, Col := 0, Value := zValue }
instance : Inhabited GSide := ⟨zSide⟩
def fsSide : List (SF GSide) := [⟨Int, 3, rInt, GSide.Var⟩, ⟨Int, 3, rInt, GSide.Col⟩, ⟨GValue, 60, rValue, GSide.Value⟩]
abbrev rSide : Rp GSide := rStruct fsSide
theorem ty62 : TyOf Tryz.prog 62 rSide := ⟨fun w => Tryz.isAgg62 w, fun w => Tryz.sizeOf62 w⟩
theorem so62 : StructOf Tryz.prog 62 fsSide := ⟨⟨_, Tryz.underlying62, ⟨rfl, rfl, ty3, by decide, ⟨rfl, rfl, ty3, by decide, ⟨rfl, rfl, ty60, by decide, trivial⟩⟩⟩⟩, ty62⟩
theorem zr62 : ∀ h, (rSide.ty zSide).p h (.agg #[Value.int .i64 0, Value.int .i64 0, Value.int .i64 0, Value.int .i64 0, Value.string ⟨#[]⟩]) := fun _ => ⟨_, ⟨[Value.int .i64 0], _, rfl, rfl, ⟨[Value.int .i64 0], _, rfl, rfl, ⟨[Value.int .i64 0, Value.int .i64 0, Value.string ⟨#[]⟩], _, rfl, ⟨[Value.int .i64 0], _, rfl, rfl, ⟨[Value.int .i64 0], _, rfl, rfl, ⟨[Value.string ⟨#[]⟩], _, rfl, rfl, rfl⟩⟩⟩, rfl⟩⟩⟩, rfl⟩
theorem el62 : ElT Tryz.prog 62 rSide 48 zSide := ⟨ty62, by decide, Tryz.t62, (.agg #[Value.int .i64 0, Value.int .i64 0, Value.int .i64 0, Value.int .i64 0, Value.string ⟨#[]⟩]), by kernel_rfl, by kernel_rfl, by kernel_rfl, by kernel_rfl, zr62⟩
structure GTest where
  Left : GSide
  Op : Int
  Right : GSide
  Add : Int
def zTest : GTest := { Left := zSide, Op := 0, Right := zSide, Add := 0 }
instance : Inhabited GTest := ⟨zTest⟩
def fsTest : List (SF GTest) := [⟨GSide, 62, rSide, GTest.Left⟩, ⟨Int, 3, rInt, GTest.Op⟩, ⟨GSide, 62, rSide, GTest.Right⟩, ⟨Int, 3, rInt, GTest.Add⟩]
abbrev rTest : Rp GTest := rStruct fsTest
theorem ty66 : TyOf Tryz.prog 66 rTest := ⟨fun w => Tryz.isAgg66 w, fun w => Tryz.sizeOf66 w⟩
theorem so66 : StructOf Tryz.prog 66 fsTest := ⟨⟨_, Tryz.underlying66, ⟨rfl, rfl, ty62, by decide, ⟨rfl, rfl, ty3, by decide, ⟨rfl, rfl, ty62, by decide, ⟨rfl, rfl, ty3, by decide, trivial⟩⟩⟩⟩⟩, ty66⟩
theorem zr66 : ∀ h, (rTest.ty zTest).p h (.agg #[Value.int .i64 0, Value.int .i64 0, Value.int .i64 0, Value.int .i64 0, Value.string ⟨#[]⟩, Value.int .i64 0, Value.int .i64 0, Value.int .i64 0, Value.int .i64 0, Value.int .i64 0, Value.string ⟨#[]⟩, Value.int .i64 0]) := fun _ => ⟨_, ⟨[Value.int .i64 0, Value.int .i64 0, Value.int .i64 0, Value.int .i64 0, Value.string ⟨#[]⟩], _, rfl, ⟨[Value.int .i64 0], _, rfl, rfl, ⟨[Value.int .i64 0], _, rfl, rfl, ⟨[Value.int .i64 0, Value.int .i64 0, Value.string ⟨#[]⟩], _, rfl, ⟨[Value.int .i64 0], _, rfl, rfl, ⟨[Value.int .i64 0], _, rfl, rfl, ⟨[Value.string ⟨#[]⟩], _, rfl, rfl, rfl⟩⟩⟩, rfl⟩⟩⟩, ⟨[Value.int .i64 0], _, rfl, rfl, ⟨[Value.int .i64 0, Value.int .i64 0, Value.int .i64 0, Value.int .i64 0, Value.string ⟨#[]⟩], _, rfl, ⟨[Value.int .i64 0], _, rfl, rfl, ⟨[Value.int .i64 0], _, rfl, rfl, ⟨[Value.int .i64 0, Value.int .i64 0, Value.string ⟨#[]⟩], _, rfl, ⟨[Value.int .i64 0], _, rfl, rfl, ⟨[Value.int .i64 0], _, rfl, rfl, ⟨[Value.string ⟨#[]⟩], _, rfl, rfl, rfl⟩⟩⟩, rfl⟩⟩⟩, ⟨[Value.int .i64 0], _, rfl, rfl, rfl⟩⟩⟩⟩, rfl⟩
theorem el66 : ElT Tryz.prog 66 rTest 112 zTest := ⟨ty66, by decide, Tryz.t66, (.agg #[Value.int .i64 0, Value.int .i64 0, Value.int .i64 0, Value.int .i64 0, Value.string ⟨#[]⟩, Value.int .i64 0, Value.int .i64 0, Value.int .i64 0, Value.int .i64 0, Value.int .i64 0, Value.string ⟨#[]⟩, Value.int .i64 0]), by kernel_rfl, by kernel_rfl, by kernel_rfl, by kernel_rfl, zr66⟩
theorem ty30 : TyOf Tryz.prog 30 (rSl rTest) := ⟨fun w => Tryz.isAgg30 w, fun w => Tryz.sizeOf30 w⟩
theorem ty30V : TyOf Tryz.prog 30 rV := ⟨fun w => Tryz.isAgg30 w, fun w => Tryz.sizeOf30 w⟩
theorem zr30 : ∀ h, ((rSl rTest).ty []).p h (Value.slice none 0 0) := fun _ => ⟨none, 0, rfl, fun q => absurd rfl q⟩
theorem el30 : ElT Tryz.prog 30 (rSl rTest) 24 [] := ⟨ty30, by decide, Tryz.t30, (Value.slice none 0 0), by kernel_rfl, by kernel_rfl, by kernel_rfl, by kernel_rfl, zr30⟩
structure GRule where
  Kind : Int
  Name : ByteArray
  Table : Int
  Cols : List Int
  Col : Int
  Fixed : List GFixed
  Other : Int
  OtherCol : Int
  Tables : List Int
  Tests : List GTest
def zRule : GRule := { Kind := 0, Name := ⟨#[]⟩, Table := 0, Cols := [], Col := 0, Fixed := [], Other := 0, OtherCol := 0, Tables := [], Tests := [] }
instance : Inhabited GRule := ⟨zRule⟩
def fsRule : List (SF GRule) := [⟨Int, 3, rInt, GRule.Kind⟩, ⟨ByteArray, 9, rStr, GRule.Name⟩, ⟨Int, 3, rInt, GRule.Table⟩, ⟨List Int, 24, (rSl rInt), GRule.Cols⟩, ⟨Int, 3, rInt, GRule.Col⟩, ⟨List GFixed, 29, (rSl rFixed), GRule.Fixed⟩, ⟨Int, 3, rInt, GRule.Other⟩, ⟨Int, 3, rInt, GRule.OtherCol⟩, ⟨List Int, 24, (rSl rInt), GRule.Tables⟩, ⟨List GTest, 30, (rSl rTest), GRule.Tests⟩]
abbrev rRule : Rp GRule := rStruct fsRule
theorem ty32 : TyOf Tryz.prog 32 rRule := ⟨fun w => Tryz.isAgg32 w, fun w => Tryz.sizeOf32 w⟩
theorem so32 : StructOf Tryz.prog 32 fsRule := ⟨⟨_, Tryz.underlying32, ⟨rfl, rfl, ty3, by decide, ⟨rfl, rfl, ty9, by decide, ⟨rfl, rfl, ty3, by decide, ⟨rfl, rfl, ty24, by decide, ⟨rfl, rfl, ty3, by decide, ⟨rfl, rfl, ty29, by decide, ⟨rfl, rfl, ty3, by decide, ⟨rfl, rfl, ty3, by decide, ⟨rfl, rfl, ty24, by decide, ⟨rfl, rfl, ty30, by decide, trivial⟩⟩⟩⟩⟩⟩⟩⟩⟩⟩⟩, ty32⟩
theorem zr32 : ∀ h, (rRule.ty zRule).p h (.agg #[Value.int .i64 0, Value.string ⟨#[]⟩, Value.int .i64 0, Value.slice none 0 0, Value.int .i64 0, Value.slice none 0 0, Value.int .i64 0, Value.int .i64 0, Value.slice none 0 0, Value.slice none 0 0]) := fun _ => ⟨_, ⟨[Value.int .i64 0], _, rfl, rfl, ⟨[Value.string ⟨#[]⟩], _, rfl, rfl, ⟨[Value.int .i64 0], _, rfl, rfl, ⟨[Value.slice none 0 0], _, rfl, ⟨_, rfl, none, 0, rfl, fun q => absurd rfl q⟩, ⟨[Value.int .i64 0], _, rfl, rfl, ⟨[Value.slice none 0 0], _, rfl, ⟨_, rfl, none, 0, rfl, fun q => absurd rfl q⟩, ⟨[Value.int .i64 0], _, rfl, rfl, ⟨[Value.int .i64 0], _, rfl, rfl, ⟨[Value.slice none 0 0], _, rfl, ⟨_, rfl, none, 0, rfl, fun q => absurd rfl q⟩, ⟨[Value.slice none 0 0], _, rfl, ⟨_, rfl, none, 0, rfl, fun q => absurd rfl q⟩, rfl⟩⟩⟩⟩⟩⟩⟩⟩⟩⟩, rfl⟩
theorem el32 : ElT Tryz.prog 32 rRule 152 zRule := ⟨ty32, by decide, Tryz.t32, (.agg #[Value.int .i64 0, Value.string ⟨#[]⟩, Value.int .i64 0, Value.slice none 0 0, Value.int .i64 0, Value.slice none 0 0, Value.int .i64 0, Value.int .i64 0, Value.slice none 0 0, Value.slice none 0 0]), by kernel_rfl, by kernel_rfl, by kernel_rfl, by kernel_rfl, zr32⟩
theorem ty52 : TyOf Tryz.prog 52 (rSl rValue) := ⟨fun w => Tryz.isAgg52 w, fun w => Tryz.sizeOf52 w⟩
theorem ty52V : TyOf Tryz.prog 52 rV := ⟨fun w => Tryz.isAgg52 w, fun w => Tryz.sizeOf52 w⟩
theorem zr52 : ∀ h, ((rSl rValue).ty []).p h (Value.slice none 0 0) := fun _ => ⟨none, 0, rfl, fun q => absurd rfl q⟩
theorem el52 : ElT Tryz.prog 52 (rSl rValue) 24 [] := ⟨ty52, by decide, Tryz.t52, (Value.slice none 0 0), by kernel_rfl, by kernel_rfl, by kernel_rfl, by kernel_rfl, zr52⟩
structure GFact where
  Table : Int
  Entity : Int
  Variant : Int
  Row : List GValue
  Cost : Int
  From : List Int
def zFact : GFact := { Table := 0, Entity := 0, Variant := 0, Row := [], Cost := 0, From := [] }
instance : Inhabited GFact := ⟨zFact⟩
def fsFact : List (SF GFact) := [⟨Int, 3, rInt, GFact.Table⟩, ⟨Int, 3, rInt, GFact.Entity⟩, ⟨Int, 3, rInt, GFact.Variant⟩, ⟨List GValue, 52, (rSl rValue), GFact.Row⟩, ⟨Int, 3, rInt, GFact.Cost⟩, ⟨List Int, 24, (rSl rInt), GFact.From⟩]
abbrev rFact : Rp GFact := rStruct fsFact
theorem ty54 : TyOf Tryz.prog 54 rFact := ⟨fun w => Tryz.isAgg54 w, fun w => Tryz.sizeOf54 w⟩
theorem so54 : StructOf Tryz.prog 54 fsFact := ⟨⟨_, Tryz.underlying54, ⟨rfl, rfl, ty3, by decide, ⟨rfl, rfl, ty3, by decide, ⟨rfl, rfl, ty3, by decide, ⟨rfl, rfl, ty52, by decide, ⟨rfl, rfl, ty3, by decide, ⟨rfl, rfl, ty24, by decide, trivial⟩⟩⟩⟩⟩⟩⟩, ty54⟩
theorem zr54 : ∀ h, (rFact.ty zFact).p h (.agg #[Value.int .i64 0, Value.int .i64 0, Value.int .i64 0, Value.slice none 0 0, Value.int .i64 0, Value.slice none 0 0]) := fun _ => ⟨_, ⟨[Value.int .i64 0], _, rfl, rfl, ⟨[Value.int .i64 0], _, rfl, rfl, ⟨[Value.int .i64 0], _, rfl, rfl, ⟨[Value.slice none 0 0], _, rfl, ⟨_, rfl, none, 0, rfl, fun q => absurd rfl q⟩, ⟨[Value.int .i64 0], _, rfl, rfl, ⟨[Value.slice none 0 0], _, rfl, ⟨_, rfl, none, 0, rfl, fun q => absurd rfl q⟩, rfl⟩⟩⟩⟩⟩⟩, rfl⟩
theorem el54 : ElT Tryz.prog 54 rFact 80 zFact := ⟨ty54, by decide, Tryz.t54, (.agg #[Value.int .i64 0, Value.int .i64 0, Value.int .i64 0, Value.slice none 0 0, Value.int .i64 0, Value.slice none 0 0]), by kernel_rfl, by kernel_rfl, by kernel_rfl, by kernel_rfl, zr54⟩
theorem ty33 : TyOf Tryz.prog 33 (rSl (rSl rInt)) := ⟨fun w => Tryz.isAgg33 w, fun w => Tryz.sizeOf33 w⟩
theorem ty33V : TyOf Tryz.prog 33 rV := ⟨fun w => Tryz.isAgg33 w, fun w => Tryz.sizeOf33 w⟩
theorem zr33 : ∀ h, ((rSl (rSl rInt)).ty []).p h (Value.slice none 0 0) := fun _ => ⟨none, 0, rfl, fun q => absurd rfl q⟩
theorem el33 : ElT Tryz.prog 33 (rSl (rSl rInt)) 24 [] := ⟨ty33, by decide, Tryz.t33, (Value.slice none 0 0), by kernel_rfl, by kernel_rfl, by kernel_rfl, by kernel_rfl, zr33⟩
structure GGraph where
  N : Int
  Cost : List Int
  Edges : List (List Int)
def zGraph : GGraph := { N := 0, Cost := [], Edges := [] }
instance : Inhabited GGraph := ⟨zGraph⟩
def fsGraph : List (SF GGraph) := [⟨Int, 3, rInt, GGraph.N⟩, ⟨List Int, 24, (rSl rInt), GGraph.Cost⟩, ⟨List (List Int), 33, (rSl (rSl rInt)), GGraph.Edges⟩]
abbrev rGraph : Rp GGraph := rStruct fsGraph
theorem ty38 : TyOf Tryz.prog 38 rGraph := ⟨fun w => Tryz.isAgg38 w, fun w => Tryz.sizeOf38 w⟩
theorem so38 : StructOf Tryz.prog 38 fsGraph := ⟨⟨_, Tryz.underlying38, ⟨rfl, rfl, ty3, by decide, ⟨rfl, rfl, ty24, by decide, ⟨rfl, rfl, ty33, by decide, trivial⟩⟩⟩⟩, ty38⟩
theorem zr38 : ∀ h, (rGraph.ty zGraph).p h (.agg #[Value.int .i64 0, Value.slice none 0 0, Value.slice none 0 0]) := fun _ => ⟨_, ⟨[Value.int .i64 0], _, rfl, rfl, ⟨[Value.slice none 0 0], _, rfl, ⟨_, rfl, none, 0, rfl, fun q => absurd rfl q⟩, ⟨[Value.slice none 0 0], _, rfl, ⟨_, rfl, none, 0, rfl, fun q => absurd rfl q⟩, rfl⟩⟩⟩, rfl⟩
theorem el38 : ElT Tryz.prog 38 rGraph 56 zGraph := ⟨ty38, by decide, Tryz.t38, (.agg #[Value.int .i64 0, Value.slice none 0 0, Value.slice none 0 0]), by kernel_rfl, by kernel_rfl, by kernel_rfl, by kernel_rfl, zr38⟩
theorem ty22 : TyOf Tryz.prog 22 (rSl rRule) := ⟨fun w => Tryz.isAgg22 w, fun w => Tryz.sizeOf22 w⟩
theorem ty22V : TyOf Tryz.prog 22 rV := ⟨fun w => Tryz.isAgg22 w, fun w => Tryz.sizeOf22 w⟩
theorem zr22 : ∀ h, ((rSl rRule).ty []).p h (Value.slice none 0 0) := fun _ => ⟨none, 0, rfl, fun q => absurd rfl q⟩
theorem el22 : ElT Tryz.prog 22 (rSl rRule) 24 [] := ⟨ty22, by decide, Tryz.t22, (Value.slice none 0 0), by kernel_rfl, by kernel_rfl, by kernel_rfl, by kernel_rfl, zr22⟩
theorem ty23 : TyOf Tryz.prog 23 (rSl rFact) := ⟨fun w => Tryz.isAgg23 w, fun w => Tryz.sizeOf23 w⟩
theorem ty23V : TyOf Tryz.prog 23 rV := ⟨fun w => Tryz.isAgg23 w, fun w => Tryz.sizeOf23 w⟩
theorem zr23 : ∀ h, ((rSl rFact).ty []).p h (Value.slice none 0 0) := fun _ => ⟨none, 0, rfl, fun q => absurd rfl q⟩
theorem el23 : ElT Tryz.prog 23 (rSl rFact) 24 [] := ⟨ty23, by decide, Tryz.t23, (Value.slice none 0 0), by kernel_rfl, by kernel_rfl, by kernel_rfl, by kernel_rfl, zr23⟩
theorem ty4 : TyOf Tryz.prog 4 rBool := ⟨fun w => Tryz.isAgg4 w, fun w => Tryz.sizeOf4 w⟩
theorem zr4 : ∀ h, (rBool.ty false).p h (Value.bool false) := fun _ => rfl
theorem el4 : ElT Tryz.prog 4 rBool 1 false := ⟨ty4, by decide, Tryz.t4, (Value.bool false), by kernel_rfl, by kernel_rfl, by kernel_rfl, by kernel_rfl, zr4⟩
theorem ty47 : TyOf Tryz.prog 47 (rSl rBool) := ⟨fun w => Tryz.isAgg47 w, fun w => Tryz.sizeOf47 w⟩
theorem ty47V : TyOf Tryz.prog 47 rV := ⟨fun w => Tryz.isAgg47 w, fun w => Tryz.sizeOf47 w⟩
theorem zr47 : ∀ h, ((rSl rBool).ty []).p h (Value.slice none 0 0) := fun _ => ⟨none, 0, rfl, fun q => absurd rfl q⟩
theorem el47 : ElT Tryz.prog 47 (rSl rBool) 24 [] := ⟨ty47, by decide, Tryz.t47, (Value.slice none 0 0), by kernel_rfl, by kernel_rfl, by kernel_rfl, by kernel_rfl, zr47⟩
theorem ty77 : TyOf Tryz.prog 77 rV := ⟨fun w => Tryz.isAgg77 w, fun w => Tryz.sizeOf77 w⟩
theorem zr77 : ∀ h, (rV.ty Value.nilFunc).p h (Value.nilFunc) := fun _ => ⟨rfl, rfl⟩
theorem el77 : ElT Tryz.prog 77 rV 8 Value.nilFunc := ⟨ty77, by decide, Tryz.t77, (Value.nilFunc), by kernel_rfl, by kernel_rfl, by kernel_rfl, by kernel_rfl, zr77⟩
structure Gcomparison where
  op : Int
  holds : Value
def zcomparison : Gcomparison := { op := 0, holds := Value.nilFunc }
instance : Inhabited Gcomparison := ⟨zcomparison⟩
def fscomparison : List (SF Gcomparison) := [⟨Int, 3, rInt, Gcomparison.op⟩, ⟨Value, 77, rV, Gcomparison.holds⟩]
abbrev rcomparison : Rp Gcomparison := rStruct fscomparison
theorem ty98 : TyOf Tryz.prog 98 rcomparison := ⟨fun w => Tryz.isAgg98 w, fun w => Tryz.sizeOf98 w⟩
theorem so98 : StructOf Tryz.prog 98 fscomparison := ⟨⟨_, Tryz.underlying98, ⟨rfl, rfl, ty3, by decide, ⟨rfl, rfl, ty77, by decide, trivial⟩⟩⟩, ty98⟩
theorem zr98 : ∀ h, (rcomparison.ty zcomparison).p h (.agg #[Value.int .i64 0, Value.nilFunc]) := fun _ => ⟨_, ⟨[Value.int .i64 0], _, rfl, rfl, ⟨[Value.nilFunc], _, rfl, ⟨rfl, rfl⟩, rfl⟩⟩, rfl⟩
theorem el98 : ElT Tryz.prog 98 rcomparison 16 zcomparison := ⟨ty98, by decide, Tryz.t98, (.agg #[Value.int .i64 0, Value.nilFunc]), by kernel_rfl, by kernel_rfl, by kernel_rfl, by kernel_rfl, zr98⟩
theorem ty95 : TyOf Tryz.prog 95 (rSl rcomparison) := ⟨fun w => Tryz.isAgg95 w, fun w => Tryz.sizeOf95 w⟩
theorem ty95V : TyOf Tryz.prog 95 rV := ⟨fun w => Tryz.isAgg95 w, fun w => Tryz.sizeOf95 w⟩
theorem zr95 : ∀ h, ((rSl rcomparison).ty []).p h (Value.slice none 0 0) := fun _ => ⟨none, 0, rfl, fun q => absurd rfl q⟩
theorem el95 : ElT Tryz.prog 95 (rSl rcomparison) 24 [] := ⟨ty95, by decide, Tryz.t95, (Value.slice none 0 0), by kernel_rfl, by kernel_rfl, by kernel_rfl, by kernel_rfl, zr95⟩
theorem ty5 : TyOf Tryz.prog 5 rU8 := ⟨fun w => Tryz.isAgg5 w, fun w => Tryz.sizeOf5 w⟩
theorem zr5 : ∀ h, (rU8.ty 0).p h (Value.int .u8 0) := fun _ => rfl
theorem el5 : ElT Tryz.prog 5 rU8 1 0 := ⟨ty5, by decide, Tryz.t5, (Value.int .u8 0), by kernel_rfl, by kernel_rfl, by kernel_rfl, by kernel_rfl, zr5⟩
theorem ty100 : TyOf Tryz.prog 100 (rSl rU8) := ⟨fun w => Tryz.isAgg100 w, fun w => Tryz.sizeOf100 w⟩
theorem ty100V : TyOf Tryz.prog 100 rV := ⟨fun w => Tryz.isAgg100 w, fun w => Tryz.sizeOf100 w⟩
theorem zr100 : ∀ h, ((rSl rU8).ty []).p h (Value.slice none 0 0) := fun _ => ⟨none, 0, rfl, fun q => absurd rfl q⟩
theorem el100 : ElT Tryz.prog 100 (rSl rU8) 24 [] := ⟨ty100, by decide, Tryz.t100, (Value.slice none 0 0), by kernel_rfl, by kernel_rfl, by kernel_rfl, by kernel_rfl, zr100⟩
theorem ty74 : TyOf Tryz.prog 74 rV := ⟨fun w => Tryz.isAgg74 w, fun w => Tryz.sizeOf74 w⟩
theorem zr74 : ∀ h, (rV.ty Value.nilFunc).p h (Value.nilFunc) := fun _ => ⟨rfl, rfl⟩
theorem el74 : ElT Tryz.prog 74 rV 8 Value.nilFunc := ⟨ty74, by decide, Tryz.t74, (Value.nilFunc), by kernel_rfl, by kernel_rfl, by kernel_rfl, by kernel_rfl, zr74⟩
theorem ty82 : TyOf Tryz.prog 82 rV := ⟨fun w => Tryz.isAgg82 w, fun w => Tryz.sizeOf82 w⟩
theorem zr82 : ∀ h, (rV.ty (Value.map none)).p h (Value.map none) := fun _ => ⟨rfl, rfl⟩
theorem el82 : ElT Tryz.prog 82 rV 8 (Value.map none) := ⟨ty82, by decide, Tryz.t82, (Value.map none), by kernel_rfl, by kernel_rfl, by kernel_rfl, by kernel_rfl, zr82⟩
theorem ty105 : TyOf Tryz.prog 105 rV := ⟨fun w => Tryz.isAgg105 w, fun w => Tryz.sizeOf105 w⟩
theorem zr105 : ∀ h, (rV.ty (Value.map none)).p h (Value.map none) := fun _ => ⟨rfl, rfl⟩
theorem el105 : ElT Tryz.prog 105 rV 8 (Value.map none) := ⟨ty105, by decide, Tryz.t105, (Value.map none), by kernel_rfl, by kernel_rfl, by kernel_rfl, by kernel_rfl, zr105⟩
theorem ty106 : TyOf Tryz.prog 106 rV := ⟨fun w => Tryz.isAgg106 w, fun w => Tryz.sizeOf106 w⟩
theorem zr106 : ∀ h, (rV.ty Value.nilFunc).p h (Value.nilFunc) := fun _ => ⟨rfl, rfl⟩
theorem el106 : ElT Tryz.prog 106 rV 8 Value.nilFunc := ⟨ty106, by decide, Tryz.t106, (Value.nilFunc), by kernel_rfl, by kernel_rfl, by kernel_rfl, by kernel_rfl, zr106⟩
theorem ty71 : TyOf Tryz.prog 71 rV := ⟨fun w => Tryz.isAgg71 w, fun w => Tryz.sizeOf71 w⟩
theorem zr71 : ∀ h, (rV.ty Value.nilFunc).p h (Value.nilFunc) := fun _ => ⟨rfl, rfl⟩
theorem el71 : ElT Tryz.prog 71 rV 8 Value.nilFunc := ⟨ty71, by decide, Tryz.t71, (Value.nilFunc), by kernel_rfl, by kernel_rfl, by kernel_rfl, by kernel_rfl, zr71⟩
theorem ty75 : TyOf Tryz.prog 75 rV := ⟨fun w => Tryz.isAgg75 w, fun w => Tryz.sizeOf75 w⟩
theorem zr75 : ∀ h, (rV.ty Value.nilFunc).p h (Value.nilFunc) := fun _ => ⟨rfl, rfl⟩
theorem el75 : ElT Tryz.prog 75 rV 8 Value.nilFunc := ⟨ty75, by decide, Tryz.t75, (Value.nilFunc), by kernel_rfl, by kernel_rfl, by kernel_rfl, by kernel_rfl, zr75⟩
theorem ty124 : TyOf Tryz.prog 124 rU64 := ⟨fun w => Tryz.isAgg124 w, fun w => Tryz.sizeOf124 w⟩
theorem zr124 : ∀ h, (rU64.ty 0).p h (Value.int .u64 0) := fun _ => rfl
theorem el124 : ElT Tryz.prog 124 rU64 8 0 := ⟨ty124, by decide, Tryz.t124, (Value.int .u64 0), by kernel_rfl, by kernel_rfl, by kernel_rfl, by kernel_rfl, zr124⟩
theorem ty34 : TyOf Tryz.prog 34 rInt := ⟨fun w => Tryz.isAgg34 w, fun w => Tryz.sizeOf34 w⟩
theorem zr34 : ∀ h, (rInt.ty 0).p h (Value.int .i64 0) := fun _ => rfl
theorem el34 : ElT Tryz.prog 34 rInt 8 0 := ⟨ty34, by decide, Tryz.t34, (Value.int .i64 0), by kernel_rfl, by kernel_rfl, by kernel_rfl, by kernel_rfl, zr34⟩
theorem ty83 : TyOf Tryz.prog 83 rV := ⟨fun w => Tryz.isAgg83 w, fun w => Tryz.sizeOf83 w⟩
theorem zr83 : ∀ h, (rV.ty Value.nilFunc).p h (Value.nilFunc) := fun _ => ⟨rfl, rfl⟩
theorem el83 : ElT Tryz.prog 83 rV 8 Value.nilFunc := ⟨ty83, by decide, Tryz.t83, (Value.nilFunc), by kernel_rfl, by kernel_rfl, by kernel_rfl, by kernel_rfl, zr83⟩
theorem ty25 : TyOf Tryz.prog 25 rV := ⟨fun w => Tryz.isAgg25 w, fun w => Tryz.sizeOf25 w⟩
theorem zr25 : ∀ h, (rV.ty Value.nilFunc).p h (Value.nilFunc) := fun _ => ⟨rfl, rfl⟩
theorem el25 : ElT Tryz.prog 25 rV 8 Value.nilFunc := ⟨ty25, by decide, Tryz.t25, (Value.nilFunc), by kernel_rfl, by kernel_rfl, by kernel_rfl, by kernel_rfl, zr25⟩
structure GRuleW where
  Kind : Int
  Name : ByteArray
  Table : Int
  Cols : List Int
  Col : Int
  Fixed : List GFixed
  Other : Int
  OtherCol : Int
  Tables : List Int
  Tests : Value
def zRuleW : GRuleW := { Kind := 0, Name := ⟨#[]⟩, Table := 0, Cols := [], Col := 0, Fixed := [], Other := 0, OtherCol := 0, Tables := [], Tests := Value.slice none 0 0 }
def fsRuleW : List (SF GRuleW) := [⟨Int, 3, rInt, GRuleW.Kind⟩, ⟨ByteArray, 9, rStr, GRuleW.Name⟩, ⟨Int, 3, rInt, GRuleW.Table⟩, ⟨List Int, 24, (rSl rInt), GRuleW.Cols⟩, ⟨Int, 3, rInt, GRuleW.Col⟩, ⟨List GFixed, 29, (rSl rFixed), GRuleW.Fixed⟩, ⟨Int, 3, rInt, GRuleW.Other⟩, ⟨Int, 3, rInt, GRuleW.OtherCol⟩, ⟨List Int, 24, (rSl rInt), GRuleW.Tables⟩, ⟨Value, 30, rV, GRuleW.Tests⟩]
abbrev rRuleW : Rp GRuleW := rStruct fsRuleW
theorem ty30V32 : TyOf Tryz.prog 30 rV := ⟨fun w => Tryz.isAgg30 w, fun w => Tryz.sizeOf30 w⟩
theorem ty32W : TyOf Tryz.prog 32 rRuleW := ⟨fun w => Tryz.isAgg32 w, fun w => Tryz.sizeOf32 w⟩
theorem so32W : StructOf Tryz.prog 32 fsRuleW := ⟨⟨_, Tryz.underlying32, ⟨rfl, rfl, ty3, by decide, ⟨rfl, rfl, ty9, by decide, ⟨rfl, rfl, ty3, by decide, ⟨rfl, rfl, ty24, by decide, ⟨rfl, rfl, ty3, by decide, ⟨rfl, rfl, ty29, by decide, ⟨rfl, rfl, ty3, by decide, ⟨rfl, rfl, ty3, by decide, ⟨rfl, rfl, ty24, by decide, ⟨rfl, rfl, ty30V32, by decide, trivial⟩⟩⟩⟩⟩⟩⟩⟩⟩⟩⟩, ty32W⟩
theorem zr32W : ∀ h, (rRuleW.ty zRuleW).p h (.agg #[Value.int .i64 0, Value.string ⟨#[]⟩, Value.int .i64 0, Value.slice none 0 0, Value.int .i64 0, Value.slice none 0 0, Value.int .i64 0, Value.int .i64 0, Value.slice none 0 0, Value.slice none 0 0]) := fun _ => ⟨_, ⟨[Value.int .i64 0], _, rfl, rfl, ⟨[Value.string ⟨#[]⟩], _, rfl, rfl, ⟨[Value.int .i64 0], _, rfl, rfl, ⟨[Value.slice none 0 0], _, rfl, ⟨_, rfl, none, 0, rfl, fun q => absurd rfl q⟩, ⟨[Value.int .i64 0], _, rfl, rfl, ⟨[Value.slice none 0 0], _, rfl, ⟨_, rfl, none, 0, rfl, fun q => absurd rfl q⟩, ⟨[Value.int .i64 0], _, rfl, rfl, ⟨[Value.int .i64 0], _, rfl, rfl, ⟨[Value.slice none 0 0], _, rfl, ⟨_, rfl, none, 0, rfl, fun q => absurd rfl q⟩, ⟨[Value.slice none 0 0], _, rfl, ⟨rfl, rfl⟩, rfl⟩⟩⟩⟩⟩⟩⟩⟩⟩⟩, rfl⟩
def GRuleW.up (x : GRuleW) (aTests : List GTest) : GRule := { Kind := x.Kind, Name := x.Name, Table := x.Table, Cols := x.Cols, Col := x.Col, Fixed := x.Fixed, Other := x.Other, OtherCol := x.OtherCol, Tables := x.Tables, Tests := aTests }
theorem up32W {h h' : PH} {x : GRuleW} (aTests : List GTest) {cs : List Value} (l : h.le h') (vTests : (tSl rTest aTests).p h' x.Tests) (r : SF.rel h x fsRuleW cs) : SF.rel h' (x.up aTests) fsRule cs := by
  obtain ⟨c0, _, rfl, r0, c1, _, rfl, r1, c2, _, rfl, r2, c3, _, rfl, r3, c4, _, rfl, r4, c5, _, rfl, r5, c6, _, rfl, r6, c7, _, rfl, r7, c8, _, rfl, r8, c9, _, rfl, r9, rz⟩ := r
  exact ⟨c0, _, rfl, (rInt).mono l r0, ⟨c1, _, rfl, (rStr).mono l r1, ⟨c2, _, rfl, (rInt).mono l r2, ⟨c3, _, rfl, ((rSl rInt)).mono l r3, ⟨c4, _, rfl, (rInt).mono l r4, ⟨c5, _, rfl, ((rSl rFixed)).mono l r5, ⟨c6, _, rfl, (rInt).mono l r6, ⟨c7, _, rfl, (rInt).mono l r7, ⟨c8, _, rfl, ((rSl rInt)).mono l r8, ⟨c9, _, rfl, ⟨_, r9.1, vTests⟩, rz⟩⟩⟩⟩⟩⟩⟩⟩⟩⟩
structure GGraphW where
  N : Int
  Cost : Value
  Edges : List (List Int)
def zGraphW : GGraphW := { N := 0, Cost := Value.slice none 0 0, Edges := [] }
def fsGraphW : List (SF GGraphW) := [⟨Int, 3, rInt, GGraphW.N⟩, ⟨Value, 24, rV, GGraphW.Cost⟩, ⟨List (List Int), 33, (rSl (rSl rInt)), GGraphW.Edges⟩]
abbrev rGraphW : Rp GGraphW := rStruct fsGraphW
theorem ty24V38 : TyOf Tryz.prog 24 rV := ⟨fun w => Tryz.isAgg24 w, fun w => Tryz.sizeOf24 w⟩
theorem ty38W : TyOf Tryz.prog 38 rGraphW := ⟨fun w => Tryz.isAgg38 w, fun w => Tryz.sizeOf38 w⟩
theorem so38W : StructOf Tryz.prog 38 fsGraphW := ⟨⟨_, Tryz.underlying38, ⟨rfl, rfl, ty3, by decide, ⟨rfl, rfl, ty24V38, by decide, ⟨rfl, rfl, ty33, by decide, trivial⟩⟩⟩⟩, ty38W⟩
theorem zr38W : ∀ h, (rGraphW.ty zGraphW).p h (.agg #[Value.int .i64 0, Value.slice none 0 0, Value.slice none 0 0]) := fun _ => ⟨_, ⟨[Value.int .i64 0], _, rfl, rfl, ⟨[Value.slice none 0 0], _, rfl, ⟨rfl, rfl⟩, ⟨[Value.slice none 0 0], _, rfl, ⟨_, rfl, none, 0, rfl, fun q => absurd rfl q⟩, rfl⟩⟩⟩, rfl⟩
def GGraphW.up (x : GGraphW) (aCost : List Int) : GGraph := { N := x.N, Cost := aCost, Edges := x.Edges }
theorem up38W {h h' : PH} {x : GGraphW} (aCost : List Int) {cs : List Value} (l : h.le h') (vCost : (tSl rInt aCost).p h' x.Cost) (r : SF.rel h x fsGraphW cs) : SF.rel h' (x.up aCost) fsGraph cs := by
  obtain ⟨c0, _, rfl, r0, c1, _, rfl, r1, c2, _, rfl, r2, rz⟩ := r
  exact ⟨c0, _, rfl, (rInt).mono l r0, ⟨c1, _, rfl, ⟨_, r1.1, vCost⟩, ⟨c2, _, rfl, ((rSl (rSl rInt))).mono l r2, rz⟩⟩⟩
end Lg

/- Readings of the program's struct types. -/
namespace Lg
open Go Go.Proofs
variable {H : Type} {enc : TypeId × Value → H} {W : World}
theorem rd3 : Rd enc Tryz.prog W 3 rInt := Rd.int ty3 Tryz.underlying3
theorem rd4 : Rd enc Tryz.prog W 4 rBool := Rd.bool ty4 Tryz.underlying4
theorem rd9 : Rd enc Tryz.prog W 9 rStr := Rd.str ty9 Tryz.underlying9
theorem rd24 : Rd enc Tryz.prog W 24 (rSl rInt) := Rd.sl ty24 Tryz.underlying24 rd3 (by decide)
theorem rd47 : Rd enc Tryz.prog W 47 (rSl rBool) := Rd.sl ty47 Tryz.underlying47 rd4 (by decide)
theorem rd60 : Rd enc Tryz.prog W 60 rValue where
  k := ty60.cells W
  rd := fun fuel cs x h => by
    obtain ⟨hl, hf⟩ := readStruct so60 h
    obtain ⟨y0, h0⟩ := Rd.at (t := 60) (i := 0) hf rd3 rfl
    obtain ⟨y1, h1⟩ := Rd.at (t := 60) (i := 1) hf rd3 rfl
    obtain ⟨y2, h2⟩ := Rd.at (t := 60) (i := 2) hf rd9 rfl
    refine ⟨⟨y0, y1, y2⟩, SF.rel_of hl fun i f hi => ?_⟩
    match i, hi with
    | 0, hi => cases hi; exact h0
    | 1, hi => cases hi; exact h1
    | 2, hi => cases hi; exact h2
    | n + 3, hi => simp [fsValue] at hi
theorem rd52 : Rd enc Tryz.prog W 52 (rSl rValue) := Rd.sl ty52 Tryz.underlying52 rd60 (by decide)
theorem rd64 : Rd enc Tryz.prog W 64 rFixed where
  k := ty64.cells W
  rd := fun fuel cs x h => by
    obtain ⟨hl, hf⟩ := readStruct so64 h
    obtain ⟨y0, h0⟩ := Rd.at (t := 64) (i := 0) hf rd3 rfl
    obtain ⟨y1, h1⟩ := Rd.at (t := 64) (i := 1) hf rd60 rfl
    refine ⟨⟨y0, y1⟩, SF.rel_of hl fun i f hi => ?_⟩
    match i, hi with
    | 0, hi => cases hi; exact h0
    | 1, hi => cases hi; exact h1
    | n + 2, hi => simp [fsFixed] at hi
theorem rd29 : Rd enc Tryz.prog W 29 (rSl rFixed) := Rd.sl ty29 Tryz.underlying29 rd64 (by decide)
theorem rd62 : Rd enc Tryz.prog W 62 rSide where
  k := ty62.cells W
  rd := fun fuel cs x h => by
    obtain ⟨hl, hf⟩ := readStruct so62 h
    obtain ⟨y0, h0⟩ := Rd.at (t := 62) (i := 0) hf rd3 rfl
    obtain ⟨y1, h1⟩ := Rd.at (t := 62) (i := 1) hf rd3 rfl
    obtain ⟨y2, h2⟩ := Rd.at (t := 62) (i := 2) hf rd60 rfl
    refine ⟨⟨y0, y1, y2⟩, SF.rel_of hl fun i f hi => ?_⟩
    match i, hi with
    | 0, hi => cases hi; exact h0
    | 1, hi => cases hi; exact h1
    | 2, hi => cases hi; exact h2
    | n + 3, hi => simp [fsSide] at hi
theorem rd66 : Rd enc Tryz.prog W 66 rTest where
  k := ty66.cells W
  rd := fun fuel cs x h => by
    obtain ⟨hl, hf⟩ := readStruct so66 h
    obtain ⟨y0, h0⟩ := Rd.at (t := 66) (i := 0) hf rd62 rfl
    obtain ⟨y1, h1⟩ := Rd.at (t := 66) (i := 1) hf rd3 rfl
    obtain ⟨y2, h2⟩ := Rd.at (t := 66) (i := 2) hf rd62 rfl
    obtain ⟨y3, h3⟩ := Rd.at (t := 66) (i := 3) hf rd3 rfl
    refine ⟨⟨y0, y1, y2, y3⟩, SF.rel_of hl fun i f hi => ?_⟩
    match i, hi with
    | 0, hi => cases hi; exact h0
    | 1, hi => cases hi; exact h1
    | 2, hi => cases hi; exact h2
    | 3, hi => cases hi; exact h3
    | n + 4, hi => simp [fsTest] at hi
theorem rd30 : Rd enc Tryz.prog W 30 (rSl rTest) := Rd.sl ty30 Tryz.underlying30 rd66 (by decide)
theorem rd32 : Rd enc Tryz.prog W 32 rRule where
  k := ty32.cells W
  rd := fun fuel cs x h => by
    obtain ⟨hl, hf⟩ := readStruct so32 h
    obtain ⟨y0, h0⟩ := Rd.at (t := 32) (i := 0) hf rd3 rfl
    obtain ⟨y1, h1⟩ := Rd.at (t := 32) (i := 1) hf rd9 rfl
    obtain ⟨y2, h2⟩ := Rd.at (t := 32) (i := 2) hf rd3 rfl
    obtain ⟨y3, h3⟩ := Rd.at (t := 32) (i := 3) hf rd24 rfl
    obtain ⟨y4, h4⟩ := Rd.at (t := 32) (i := 4) hf rd3 rfl
    obtain ⟨y5, h5⟩ := Rd.at (t := 32) (i := 5) hf rd29 rfl
    obtain ⟨y6, h6⟩ := Rd.at (t := 32) (i := 6) hf rd3 rfl
    obtain ⟨y7, h7⟩ := Rd.at (t := 32) (i := 7) hf rd3 rfl
    obtain ⟨y8, h8⟩ := Rd.at (t := 32) (i := 8) hf rd24 rfl
    obtain ⟨y9, h9⟩ := Rd.at (t := 32) (i := 9) hf rd30 rfl
    refine ⟨⟨y0, y1, y2, y3, y4, y5, y6, y7, y8, y9⟩, SF.rel_of hl fun i f hi => ?_⟩
    match i, hi with
    | 0, hi => cases hi; exact h0
    | 1, hi => cases hi; exact h1
    | 2, hi => cases hi; exact h2
    | 3, hi => cases hi; exact h3
    | 4, hi => cases hi; exact h4
    | 5, hi => cases hi; exact h5
    | 6, hi => cases hi; exact h6
    | 7, hi => cases hi; exact h7
    | 8, hi => cases hi; exact h8
    | 9, hi => cases hi; exact h9
    | n + 10, hi => simp [fsRule] at hi
theorem rd22 : Rd enc Tryz.prog W 22 (rSl rRule) := Rd.sl ty22 Tryz.underlying22 rd32 (by decide)
theorem rd54 : Rd enc Tryz.prog W 54 rFact where
  k := ty54.cells W
  rd := fun fuel cs x h => by
    obtain ⟨hl, hf⟩ := readStruct so54 h
    obtain ⟨y0, h0⟩ := Rd.at (t := 54) (i := 0) hf rd3 rfl
    obtain ⟨y1, h1⟩ := Rd.at (t := 54) (i := 1) hf rd3 rfl
    obtain ⟨y2, h2⟩ := Rd.at (t := 54) (i := 2) hf rd3 rfl
    obtain ⟨y3, h3⟩ := Rd.at (t := 54) (i := 3) hf rd52 rfl
    obtain ⟨y4, h4⟩ := Rd.at (t := 54) (i := 4) hf rd3 rfl
    obtain ⟨y5, h5⟩ := Rd.at (t := 54) (i := 5) hf rd24 rfl
    refine ⟨⟨y0, y1, y2, y3, y4, y5⟩, SF.rel_of hl fun i f hi => ?_⟩
    match i, hi with
    | 0, hi => cases hi; exact h0
    | 1, hi => cases hi; exact h1
    | 2, hi => cases hi; exact h2
    | 3, hi => cases hi; exact h3
    | 4, hi => cases hi; exact h4
    | 5, hi => cases hi; exact h5
    | n + 6, hi => simp [fsFact] at hi
theorem rd23 : Rd enc Tryz.prog W 23 (rSl rFact) := Rd.sl ty23 Tryz.underlying23 rd54 (by decide)
end Lg

namespace Lg
open Go Go.Proofs

def ltL : List Int → List Int → Bool
  | [], [] => false
  | [], _ :: _ => true
  | _ :: _, [] => false
  | a :: x, b :: y => if a = b then ltL x y else decide (a < b)

theorem In_spec (l : List Int) (n : Int) (hl : l.length ≤ 1000000000000) : Fun1 Tryz.prog 29 [tSl rInt l, tV (.int .i64 n)] (tV (.bool (l.contains n))) := by
  refine Spec.enter Tryz.func29 rfl rfl fun h0 w0 fr0 => ?_
  refine J_seq ?_
  refine J_region ?_
  refine JL_step rfl rfl rfl (step_assign Sub.rfl) ?_
  refine JL_nil ?_
  refine J_seq ?_
  refine J_seq ?_
  refine J_region ?_
  refine JL_step rfl rfl rfl (step_assign Sub.rfl) ?_
  refine JL_nil ?_
  refine J_block ?_
  refine J_loopL (σ := Nat) (fun i => i ≤ l.length ∧ l.contains n = (l.drop i).contains n) (fun i => upd (upd (upd env0 0 (tSl rInt l)) 1 (tV (.int .i64 n))) 5 (tV (.int .i64 i))) (fun i => []) (fun i => l.length - i) 0 ⟨by omega, by simp⟩ (SubE.upd Sub.rfl (SubE.upd Sub.rfl (SubE.upd Sub.rfl SubE.any))) (LSub.rfl) ?_
  rintro i ⟨hi, hv⟩
  refine J_seq ?_
  refine J_seq ?_
  refine J_region ?_
  refine JL_step rfl rfl rfl (step_move Sub.rfl) ?_
  refine JL_step rfl rfl rfl (step_move Sub.rfl) ?_
  refine JL_step rfl rfl rfl (step_len_sl Tryz.underlying24 Sub.rfl) ?_
  refine JL_step rfl rfl rfl (step_lss Sub.rfl Sub.rfl) ?_
  refine JL_nil ?_
  refine J_cond Sub.rfl (fun hc1 => ?_) (fun hc1 => ?_)
  · try simp only [decide_eq_true_eq, decide_eq_false_iff_not, Bool.and_eq_true, Bool.or_eq_true, Bool.and_eq_false_iff, Bool.or_eq_false_iff, Bool.not_eq_true', Bool.not_eq_false', Int.not_lt, Int.not_le, Bool.not_true, Bool.not_false] at hc1
    have hlt : i < l.length := by omega
    have hd := dropB hlt
    refine J_skip ?_
    refine J_seq ?_
    refine J_block ?_
    refine J_seq ?_
    refine J_region ?_
    refine JL_step rfl rfl rfl (step_move Sub.rfl) ?_
    refine JL_step rfl rfl rfl (step_move Sub.rfl) ?_
    refine JL_step rfl rfl rfl (step_indexAddr_sl  Tryz.underlying24 ty3 Sub.rfl Sub.rfl rfl (gb ?sg1)) ?_
    case sg1 => first | assumption | omega
    refine JL_step rfl rfl rfl (step_load_ptr ty3 Sub.rfl) ?_
    refine JL_step rfl rfl rfl (step_move Sub.rfl) ?_
    refine JL_step rfl rfl rfl (step_eql Sub.rfl Sub.rfl) ?_
    refine JL_nil ?_
    refine J_cond Sub.rfl (fun hc2 => ?_) (fun hc2 => ?_)
    · try simp only [decide_eq_true_eq, decide_eq_false_iff_not, Bool.and_eq_true, Bool.or_eq_true, Bool.and_eq_false_iff, Bool.or_eq_false_iff, Bool.not_eq_true', Bool.not_eq_false', Int.not_lt, Int.not_le, Bool.not_true, Bool.not_false] at hc2
      have he : nth l i = n := by assumption
      refine J_seq ?_
      refine J_region ?_
      refine JL_step rfl rfl rfl (step_assign Sub.rfl) ?_
      refine JL_nil ?_
      refine J_ret ?_
      refine K_ret1 (t := 4) rfl () ?_
      refine Sub.bool ?_
      rw [hv, hd]; simp [he]
    · try simp only [decide_eq_true_eq, decide_eq_false_iff_not, Bool.and_eq_true, Bool.or_eq_true, Bool.and_eq_false_iff, Bool.or_eq_false_iff, Bool.not_eq_true', Bool.not_eq_false', Int.not_lt, Int.not_le, Bool.not_true, Bool.not_false] at hc2
      have hne : ¬ nth l i = n := by assumption
      refine J_skip ?_
      refine J_region ?_
      refine JL_step rfl rfl rfl (step_move Sub.rfl) ?_
      refine JL_step rfl rfl rfl (step_add Sub.rfl Sub.rfl ?sg1) ?_
      case sg1 => unfold in64; omega
      refine JL_step rfl rfl rfl (step_assign Sub.rfl) ?_
      refine JL_nil ?_
      refine K_againL (σ := Nat) (s := i) (i + 1) (by first | omega | (dsimp only; omega) | (simp_all; omega)) ?_ (SubE.upd Sub.rfl (SubE.upd Sub.rfl (SubE.upd Sub.rfl SubE.any))) (LSub.rfl)
      refine ⟨by omega, ?_⟩
      rw [hv, hd]; simp [Ne.symm hne]
  · try simp only [decide_eq_true_eq, decide_eq_false_iff_not, Bool.and_eq_true, Bool.or_eq_true, Bool.and_eq_false_iff, Bool.or_eq_false_iff, Bool.not_eq_true', Bool.not_eq_false', Int.not_lt, Int.not_le, Bool.not_true, Bool.not_false] at hc1
    refine J_exit ?_
    refine J_seq ?_
    refine J_region ?_
    refine JL_step rfl rfl rfl (step_assign Sub.rfl) ?_
    refine JL_nil ?_
    refine J_ret ?_
    refine K_ret1 (t := 4) rfl () ?_
    refine Sub.bool ?_
    rw [hv, List.drop_of_length_le (by omega)]; rfl
theorem Less_spec (a b : List Int) (ha : a.length ≤ 1000000000000) (hb : b.length ≤ 1000000000000) : Fun1 Tryz.prog 26 [tSl rInt a, tSl rInt b] (tV (.bool (ltL a b))) := by
  refine Spec.enter Tryz.func26 rfl rfl fun h0 w0 fr0 => ?_
  refine J_seq ?_
  refine J_region ?_
  refine JL_step rfl rfl rfl (step_assign Sub.rfl) ?_
  refine JL_nil ?_
  refine J_seq ?_
  refine J_seq ?_
  refine J_region ?_
  refine JL_step rfl rfl rfl (step_assign Sub.rfl) ?_
  refine JL_nil ?_
  refine J_block ?_
  refine J_loopL (σ := Nat) (fun i => i ≤ a.length ∧ i ≤ b.length ∧ ltL a b = ltL (a.drop i) (b.drop i)) (fun i => upd (upd (upd env0 0 (tSl rInt a)) 1 (tSl rInt b)) 5 (tV (.int .i64 i))) (fun i => []) (fun i => a.length - i) 0 ⟨by omega, by omega, by simp⟩ (SubE.upd Sub.rfl (SubE.upd Sub.rfl (SubE.upd Sub.rfl SubE.any))) (LSub.rfl) ?_
  rintro i ⟨hi, hj, hv⟩
  refine J_seq ?_
  refine J_seq ?_
  refine J_region ?_
  refine JL_step rfl rfl rfl (step_move Sub.rfl) ?_
  refine JL_step rfl rfl rfl (step_move Sub.rfl) ?_
  refine JL_step rfl rfl rfl (step_len_sl Tryz.underlying24 Sub.rfl) ?_
  refine JL_step rfl rfl rfl (step_lss Sub.rfl Sub.rfl) ?_
  refine JL_step rfl rfl rfl (step_move Sub.rfl) ?_
  refine JL_stepG rfl rfl rfl (Gd.plain Sub.rfl) rfl rfl (fun hw => step_move Sub.rfl) ?_
  refine JL_stepG rfl rfl rfl (Gd.plain Sub.rfl) rfl rfl (fun hw => step_move Sub.rfl) ?_
  refine JL_stepG rfl rfl rfl (Gd.plain Sub.rfl) rfl rfl (fun hw => step_len_sl Tryz.underlying24 (Sub.w hw)) ?_
  refine JL_stepG rfl rfl rfl (Gd.plain Sub.rfl) rfl rfl (fun hw => step_lss (Sub.w hw) (Sub.w hw)) ?_
  refine JL_step rfl rfl rfl (step_pick_and Sub.rfl Sub.rfl) ?_
  refine JL_nil ?_
  refine J_cond Sub.rfl (fun hc1 => ?_) (fun hc1 => ?_)
  · try simp only [decide_eq_true_eq, decide_eq_false_iff_not, Bool.and_eq_true, Bool.or_eq_true, Bool.and_eq_false_iff, Bool.or_eq_false_iff, Bool.not_eq_true', Bool.not_eq_false', Int.not_lt, Int.not_le, Bool.not_true, Bool.not_false] at hc1
    have hlt : i < a.length := by omega
    have hlu : i < b.length := by omega
    have hd := dropB hlt
    have he := dropB hlu
    refine J_skip ?_
    refine J_seq ?_
    refine J_block ?_
    refine J_seq ?_
    refine J_draw [⟨0, [0], true⟩, ⟨1, [5], true⟩, ⟨2, [18, 19], true⟩, ⟨3, [20], true⟩, ⟨4, [1], true⟩, ⟨5, [5], true⟩, ⟨6, [22, 23], true⟩, ⟨7, [24], true⟩, ⟨8, [21, 25], true⟩] rfl (by kernel_rfl) ?_
    refine JM_step rfl rfl rfl rfl (fun _ => step_move Sub.rfl) ?_
    refine JM_step rfl rfl rfl rfl (fun _ => step_move Sub.rfl) ?_
    refine JM_step rfl rfl rfl rfl (fun _ => step_indexAddr_sl  Tryz.underlying24 ty3 Sub.rfl Sub.rfl rfl (gb ?sg1)) ?_
    case sg1 => first | assumption | omega
    refine JM_step rfl rfl rfl rfl (fun _ => step_load_ptr ty3 Sub.rfl) ?_
    refine JM_step rfl rfl rfl rfl (fun _ => step_move Sub.rfl) ?_
    refine JM_step rfl rfl rfl rfl (fun _ => step_move Sub.rfl) ?_
    refine JM_step rfl rfl rfl rfl (fun _ => step_indexAddr_sl  Tryz.underlying24 ty3 Sub.rfl Sub.rfl rfl (gb ?sg1)) ?_
    case sg1 => first | assumption | omega
    refine JM_step rfl rfl rfl rfl (fun _ => step_load_ptr ty3 Sub.rfl) ?_
    refine JM_step rfl rfl rfl rfl (fun _ => step_neq Sub.rfl Sub.rfl) ?_
    refine JM_nil ?_
    refine J_cond Sub.rfl (fun hc2 => ?_) (fun hc2 => ?_)
    · try simp only [decide_eq_true_eq, decide_eq_false_iff_not, Bool.and_eq_true, Bool.or_eq_true, Bool.and_eq_false_iff, Bool.or_eq_false_iff, Bool.not_eq_true', Bool.not_eq_false', Int.not_lt, Int.not_le, Bool.not_true, Bool.not_false] at hc2
      have hne : ¬ nth a i = nth b i := by assumption
      refine J_seq ?_
      refine J_draw [⟨0, [0], true⟩, ⟨1, [5], true⟩, ⟨2, [27, 28], true⟩, ⟨3, [29], true⟩, ⟨4, [1], true⟩, ⟨5, [5], true⟩, ⟨6, [31, 32], true⟩, ⟨7, [33], true⟩, ⟨8, [30, 34], true⟩, ⟨9, [35], true⟩] rfl (by kernel_rfl) ?_
      refine JM_step rfl rfl rfl rfl (fun _ => step_move Sub.rfl) ?_
      refine JM_step rfl rfl rfl rfl (fun _ => step_move Sub.rfl) ?_
      refine JM_step rfl rfl rfl rfl (fun _ => step_indexAddr_sl  Tryz.underlying24 ty3 Sub.rfl Sub.rfl rfl (gb ?sg1)) ?_
      case sg1 => first | assumption | omega
      refine JM_step rfl rfl rfl rfl (fun _ => step_load_ptr ty3 Sub.rfl) ?_
      refine JM_step rfl rfl rfl rfl (fun _ => step_move Sub.rfl) ?_
      refine JM_step rfl rfl rfl rfl (fun _ => step_move Sub.rfl) ?_
      refine JM_step rfl rfl rfl rfl (fun _ => step_indexAddr_sl  Tryz.underlying24 ty3 Sub.rfl Sub.rfl rfl (gb ?sg1)) ?_
      case sg1 => first | assumption | omega
      refine JM_step rfl rfl rfl rfl (fun _ => step_load_ptr ty3 Sub.rfl) ?_
      refine JM_step rfl rfl rfl rfl (fun _ => step_lss Sub.rfl Sub.rfl) ?_
      refine JM_step rfl rfl rfl rfl (fun _ => step_assign Sub.rfl) ?_
      refine JM_nil ?_
      refine J_ret ?_
      refine K_ret1 (t := 4) rfl () ?_
      refine Sub.bool ?_
      rw [hv, hd, he]; simp [ltL, hne]
    · try simp only [decide_eq_true_eq, decide_eq_false_iff_not, Bool.and_eq_true, Bool.or_eq_true, Bool.and_eq_false_iff, Bool.or_eq_false_iff, Bool.not_eq_true', Bool.not_eq_false', Int.not_lt, Int.not_le, Bool.not_true, Bool.not_false] at hc2
      have heq : nth a i = nth b i := by assumption
      refine J_skip ?_
      refine J_region ?_
      refine JL_step rfl rfl rfl (step_move Sub.rfl) ?_
      refine JL_step rfl rfl rfl (step_add Sub.rfl Sub.rfl ?sg1) ?_
      case sg1 => unfold in64; omega
      refine JL_step rfl rfl rfl (step_assign Sub.rfl) ?_
      refine JL_nil ?_
      refine K_againL (σ := Nat) (s := i) (i + 1) (by first | omega | (dsimp only; omega) | (simp_all; omega)) ?_ (SubE.upd Sub.rfl (SubE.upd Sub.rfl (SubE.upd Sub.rfl SubE.any))) (LSub.rfl)
      refine ⟨by omega, by omega, ?_⟩
      rw [hv, hd, he]; simp [ltL, heq]
  · try simp only [decide_eq_true_eq, decide_eq_false_iff_not, Bool.and_eq_true, Bool.or_eq_true, Bool.and_eq_false_iff, Bool.or_eq_false_iff, Bool.not_eq_true', Bool.not_eq_false', Int.not_lt, Int.not_le, Bool.not_true, Bool.not_false] at hc1
    refine J_exit ?_
    refine J_seq ?_
    refine J_region ?_
    refine JL_step rfl rfl rfl (step_move Sub.rfl) ?_
    refine JL_step rfl rfl rfl (step_len_sl Tryz.underlying24 Sub.rfl) ?_
    refine JL_step rfl rfl rfl (step_move Sub.rfl) ?_
    refine JL_step rfl rfl rfl (step_len_sl Tryz.underlying24 Sub.rfl) ?_
    refine JL_step rfl rfl rfl (step_lss Sub.rfl Sub.rfl) ?_
    refine JL_step rfl rfl rfl (step_assign Sub.rfl) ?_
    refine JL_nil ?_
    refine J_ret ?_
    refine K_ret1 (t := 4) rfl () ?_
    refine Sub.bool ?_
    rw [hv]
    by_cases h1 : i < a.length
    · obtain rfl : i = b.length := by omega
      rw [dropB h1, List.drop_length]; simp [ltL]; omega
    · obtain rfl : i = a.length := by omega
      rw [List.drop_length]
      by_cases h3 : a.length < b.length
      · rw [dropB h3]; simp [ltL, h3]
      · rw [List.drop_of_length_le (by omega)]; simp [ltL, h3]
def isSetFrom (n : Int) : Int → List Int → Bool
  | _, [] => true
  | p, a :: l => decide (0 ≤ a) && decide (a < n) && decide (p < a) && isSetFrom n a l
abbrev isSet (l : List Int) (n : Int) : Bool := isSetFrom n (-1) l

theorem Set_spec (l : List Int) (n : Int) (hl : l.length ≤ 1000000000000) : Fun1 Tryz.prog 39 [tSl rInt l, tV (.int .i64 n)] (tV (.bool (isSet l n))) := by
  refine Spec.enter Tryz.func39 rfl rfl fun h0 w0 fr0 => ?_
  refine J_seq ?_
  refine J_region ?_
  refine JL_step rfl rfl rfl (step_assign Sub.rfl) ?_
  refine JL_nil ?_
  refine J_seq ?_
  refine J_seq ?_
  refine J_region ?_
  refine JL_step rfl rfl rfl (step_assign Sub.rfl) ?_
  refine JL_nil ?_
  refine J_block ?_
  refine J_loopL (σ := Nat) (fun i => i ≤ l.length ∧ isSet l n = isSetFrom n (if i = 0 then -1 else nth l (i - 1)) (l.drop i)) (fun i => upd (upd (upd env0 0 (tSl rInt l)) 1 (tV (.int .i64 n))) 5 (tV (.int .i64 i))) (fun i => []) (fun i => l.length - i) 0 ⟨by omega, by simp⟩ (SubE.upd Sub.rfl (SubE.upd Sub.rfl (SubE.upd Sub.rfl SubE.any))) (LSub.rfl) ?_
  rintro i ⟨hi, hv⟩
  refine J_seq ?_
  refine J_seq ?_
  refine J_region ?_
  refine JL_step rfl rfl rfl (step_move Sub.rfl) ?_
  refine JL_step rfl rfl rfl (step_move Sub.rfl) ?_
  refine JL_step rfl rfl rfl (step_len_sl Tryz.underlying24 Sub.rfl) ?_
  refine JL_step rfl rfl rfl (step_lss Sub.rfl Sub.rfl) ?_
  refine JL_nil ?_
  refine J_cond Sub.rfl (fun hc1 => ?_) (fun hc1 => ?_)
  · try simp only [decide_eq_true_eq, decide_eq_false_iff_not, Bool.and_eq_true, Bool.or_eq_true, Bool.and_eq_false_iff, Bool.or_eq_false_iff, Bool.not_eq_true', Bool.not_eq_false', Int.not_lt, Int.not_le, Bool.not_true, Bool.not_false] at hc1
    have hlt : i < l.length := by omega
    have hd := dropB hlt
    refine J_skip ?_
    refine J_seq ?_
    refine J_block ?_
    refine J_seq ?_
    refine J_draw [⟨0, [0], true⟩, ⟨1, [5], true⟩, ⟨2, [12, 13], true⟩, ⟨3, [14], true⟩, ⟨4, [15], true⟩, ⟨5, [16], true⟩, ⟨6, [0, 17], true⟩, ⟨7, [5, 17], true⟩, ⟨8, [17, 18, 19], true⟩, ⟨9, [17, 20], true⟩, ⟨10, [1, 17], true⟩, ⟨11, [17, 21, 22], true⟩, ⟨12, [17, 23], true⟩, ⟨13, [24], true⟩, ⟨14, [5, 25], true⟩, ⟨15, [25, 26], true⟩, ⟨16, [25, 27], true⟩, ⟨17, [0, 28], true⟩, ⟨18, [5, 28], true⟩, ⟨19, [28, 29, 30], true⟩, ⟨20, [28, 31], true⟩, ⟨21, [0, 28], true⟩, ⟨22, [5, 28], true⟩, ⟨23, [28, 34], true⟩, ⟨24, [28, 33, 35], true⟩, ⟨25, [28, 36], true⟩, ⟨26, [28, 32, 37], true⟩, ⟨27, [25, 28, 38], true⟩, ⟨28, [25, 39], true⟩] rfl (by kernel_rfl) ?_
    refine JM_step rfl rfl rfl rfl (fun _ => step_move Sub.rfl) ?_
    refine JM_step rfl rfl rfl rfl (fun _ => step_move Sub.rfl) ?_
    refine JM_step rfl rfl rfl rfl (fun _ => step_indexAddr_sl  Tryz.underlying24 ty3 Sub.rfl Sub.rfl rfl (gb ?sg1)) ?_
    case sg1 => first | assumption | omega
    refine JM_step rfl rfl rfl rfl (fun _ => step_load_ptr ty3 Sub.rfl) ?_
    refine JM_step rfl rfl rfl rfl (fun _ => step_lss Sub.rfl Sub.rfl) ?_
    refine JM_step rfl rfl rfl rfl (fun _ => step_move Sub.rfl) ?_
    refine JM_stepG rfl rfl rfl rfl (Gd.plain Sub.rfl) rfl rfl (fun hw _ => step_move Sub.rfl) ?_
    refine JM_stepG rfl rfl rfl rfl (Gd.plain Sub.rfl) rfl rfl (fun hw _ => step_move Sub.rfl) ?_
    refine JM_stepG rfl rfl rfl rfl (Gd.plain Sub.rfl) rfl rfl (fun hw _ => step_indexAddr_sl  Tryz.underlying24 ty3 (Sub.w hw) (Sub.w hw) rfl (gb ?sg1)) ?_
    case sg1 => have hwq := hw; (try simp only [beqB_t, beqB_f, decide_eq_true_eq, decide_eq_false_iff_not, Bool.and_eq_true, Bool.or_eq_true, Bool.and_eq_false_iff, Bool.or_eq_false_iff, Bool.not_eq_true', Bool.not_eq_false', Int.not_lt, Int.not_le, Bool.not_true, Bool.not_false] at hwq); first | assumption | omega
    refine JM_stepG rfl rfl rfl rfl (Gd.plain Sub.rfl) rfl rfl (fun hw _ => step_load_ptr ty3 (Sub.w hw)) ?_
    refine JM_stepG rfl rfl rfl rfl (Gd.plain Sub.rfl) rfl rfl (fun hw _ => step_move Sub.rfl) ?_
    refine JM_stepG rfl rfl rfl rfl (Gd.plain Sub.rfl) rfl rfl (fun hw _ => step_geq (Sub.w hw) (Sub.w hw)) ?_
    refine JM_step rfl rfl rfl rfl (fun _ => step_pick_or Sub.rfl Sub.rfl) ?_
    refine JM_step rfl rfl rfl rfl (fun _ => step_move Sub.rfl) ?_
    refine JM_stepG rfl rfl rfl rfl (Gd.plain Sub.rfl) rfl rfl (fun hw _ => step_move Sub.rfl) ?_
    refine JM_stepG rfl rfl rfl rfl (Gd.plain Sub.rfl) rfl rfl (fun hw _ => step_gtr (Sub.w hw) Sub.rfl) ?_
    refine JM_stepG rfl rfl rfl rfl (Gd.plain Sub.rfl) rfl rfl (fun hw _ => step_move (Sub.w hw)) ?_
    refine JM_stepG rfl rfl rfl rfl (Gd.nest Sub.rfl) rfl rfl (fun hw _ => step_move Sub.rfl) ?_
    refine JM_stepG rfl rfl rfl rfl (Gd.nest Sub.rfl) rfl rfl (fun hw _ => step_move Sub.rfl) ?_
    refine JM_stepG rfl rfl rfl rfl (Gd.nest Sub.rfl) rfl rfl (fun hw _ => step_indexAddr_sl  Tryz.underlying24 ty3 (Sub.w hw) (Sub.w hw) rfl (gb ?sg1)) ?_
    case sg1 => have hwq := hw; (try simp only [beqB_t, beqB_f, decide_eq_true_eq, decide_eq_false_iff_not, Bool.and_eq_true, Bool.or_eq_true, Bool.and_eq_false_iff, Bool.or_eq_false_iff, Bool.not_eq_true', Bool.not_eq_false', Int.not_lt, Int.not_le, Bool.not_true, Bool.not_false] at hwq); first | assumption | omega
    refine JM_stepG rfl rfl rfl rfl (Gd.nest Sub.rfl) rfl rfl (fun hw _ => step_load_ptr ty3 (Sub.w hw)) ?_
    refine JM_stepG rfl rfl rfl rfl (Gd.nest Sub.rfl) rfl rfl (fun hw _ => step_move Sub.rfl) ?_
    refine JM_stepG rfl rfl rfl rfl (Gd.nest Sub.rfl) rfl rfl (fun hw _ => step_move Sub.rfl) ?_
    refine JM_stepG rfl rfl rfl rfl (Gd.nest Sub.rfl) rfl rfl (fun hw _ => step_sub (Sub.w hw) Sub.rfl ?sg1) ?_
    case sg1 => have hwq := hw; (try simp only [beqB_t, beqB_f, decide_eq_true_eq, decide_eq_false_iff_not, Bool.and_eq_true, Bool.or_eq_true, Bool.and_eq_false_iff, Bool.or_eq_false_iff, Bool.not_eq_true', Bool.not_eq_false', Int.not_lt, Int.not_le, Bool.not_true, Bool.not_false] at hwq); unfold in64; omega
    refine JM_stepG rfl rfl rfl rfl (Gd.nest Sub.rfl) rfl rfl (fun hw _ => step_indexAddr_sl (i := i - 1) Tryz.underlying24 ty3 (Sub.w hw) (Sub.w hw) ?sg1 (gb ?sg2)) ?_
    case sg1 => have hwq := hw; (try simp only [beqB_t, beqB_f, decide_eq_true_eq, decide_eq_false_iff_not, Bool.and_eq_true, Bool.or_eq_true, Bool.and_eq_false_iff, Bool.or_eq_false_iff, Bool.not_eq_true', Bool.not_eq_false', Int.not_lt, Int.not_le, Bool.not_true, Bool.not_false] at hwq); omega
    case sg2 => have hwq := hw; (try simp only [beqB_t, beqB_f, decide_eq_true_eq, decide_eq_false_iff_not, Bool.and_eq_true, Bool.or_eq_true, Bool.and_eq_false_iff, Bool.or_eq_false_iff, Bool.not_eq_true', Bool.not_eq_false', Int.not_lt, Int.not_le, Bool.not_true, Bool.not_false] at hwq); first | assumption | omega
    refine JM_stepG rfl rfl rfl rfl (Gd.nest Sub.rfl) rfl rfl (fun hw _ => step_load_ptr ty3 (Sub.w hw)) ?_
    refine JM_stepG rfl rfl rfl rfl (Gd.nest Sub.rfl) rfl rfl (fun hw _ => step_leq (Sub.w hw) (Sub.w hw)) ?_
    refine JM_stepG rfl rfl rfl rfl (Gd.plain Sub.rfl) rfl rfl (fun hw _ => step_pick_and (Sub.w hw) (Sub.ww hw)) ?_
    refine JM_step rfl rfl rfl rfl (fun _ => step_pick_or Sub.rfl Sub.rfl) ?_
    refine JM_nil ?_
    refine J_cond Sub.rfl (fun hc2 => ?_) (fun hc2 => ?_)
    · try simp only [decide_eq_true_eq, decide_eq_false_iff_not, Bool.and_eq_true, Bool.or_eq_true, Bool.and_eq_false_iff, Bool.or_eq_false_iff, Bool.not_eq_true', Bool.not_eq_false', Int.not_lt, Int.not_le, Bool.not_true, Bool.not_false] at hc2
      refine J_seq ?_
      refine J_region ?_
      refine JL_step rfl rfl rfl (step_assign Sub.rfl) ?_
      refine JL_nil ?_
      refine J_ret ?_
      refine K_ret1 (t := 4) rfl () ?_
      refine Sub.bool ?_
      rw [hv, hd]
      simp only [isSetFrom]
      by_cases h0 : i = 0
      · subst h0; simp at hc2 ⊢; omega
      · simp only [h0, if_false]; simp; omega
    · try simp only [decide_eq_true_eq, decide_eq_false_iff_not, Bool.and_eq_true, Bool.or_eq_true, Bool.and_eq_false_iff, Bool.or_eq_false_iff, Bool.not_eq_true', Bool.not_eq_false', Int.not_lt, Int.not_le, Bool.not_true, Bool.not_false] at hc2
      refine J_skip ?_
      refine J_region ?_
      refine JL_step rfl rfl rfl (step_move Sub.rfl) ?_
      refine JL_step rfl rfl rfl (step_add Sub.rfl Sub.rfl ?sg1) ?_
      case sg1 => unfold in64; omega
      refine JL_step rfl rfl rfl (step_assign Sub.rfl) ?_
      refine JL_nil ?_
      refine K_againL (σ := Nat) (s := i) (i + 1) (by first | omega | (dsimp only; omega) | (simp_all; omega)) ?_ (SubE.upd Sub.rfl (SubE.upd Sub.rfl (SubE.upd Sub.rfl SubE.any))) (LSub.rfl)
      refine ⟨by omega, ?_⟩
      rw [hv, hd]
      simp only [isSetFrom, Nat.add_sub_cancel, Nat.add_eq_zero_iff, Nat.one_ne_zero, and_false, if_false]
      by_cases h0 : i = 0
      · subst h0; simp at hc2 ⊢; omega
      · simp only [h0, if_false]; simp; omega
  · try simp only [decide_eq_true_eq, decide_eq_false_iff_not, Bool.and_eq_true, Bool.or_eq_true, Bool.and_eq_false_iff, Bool.or_eq_false_iff, Bool.not_eq_true', Bool.not_eq_false', Int.not_lt, Int.not_le, Bool.not_true, Bool.not_false] at hc1
    refine J_exit ?_
    refine J_seq ?_
    refine J_region ?_
    refine JL_step rfl rfl rfl (step_assign Sub.rfl) ?_
    refine JL_nil ?_
    refine J_ret ?_
    refine K_ret1 (t := 4) rfl () ?_
    refine Sub.bool ?_
    rw [hv, List.drop_of_length_le (by omega)]; rfl
end Lg

namespace Lg
open Go Go.Proofs


def ordI (a b : Int) : Int := if a < b then -1 else if b < a then 1 else 0
def ordS (a b : ByteArray) : Int := if Op.bytesLess a.toList b.toList then -1 else if Op.bytesLess a.toList b.toList || a.toList == b.toList then 0 else 1
def cmpV (a b : GValue) : Int := if ordI a.Kind b.Kind ≠ 0 then ordI a.Kind b.Kind else if ordI a.N b.N ≠ 0 then ordI a.N b.N else ordS a.Text b.Text
def validV (v : GValue) : Bool :=
  if v.Kind ≠ 1 ∧ v.Text ≠ ⟨#[]⟩ then false
  else if v.Kind = 0 then decide (0 ≤ v.N) && decide (v.N ≤ 0)
  else if v.Kind = 1 then (if 200 < (v.Text.size : Int) then false else decide (0 ≤ v.N) && decide (v.N ≤ 0))
  else if v.Kind = 2 then decide (-1000000000 ≤ v.N) && decide (v.N ≤ 1000000000)
  else if v.Kind = 3 then decide (0 ≤ v.N) && decide (v.N ≤ 73048)
  else if v.Kind = 4 then decide (0 ≤ v.N) && decide (v.N ≤ 1)
  else false
def opHolds (op c : Int) : Bool :=
  if op = 1 then decide (c = 0) else if op = 2 then !decide (c = 0) else if op = 3 then decide (c < 0) else if op = 4 then decide (c ≤ 0) else false
def testV (a : GValue) (op : Int) (b : GValue) (add : Int) : Bool :=
  if validV a = false ∨ validV b = false ∨ a.Kind ≠ b.Kind then false
  else if a.Kind = 2 ∨ a.Kind = 3 then opHolds op (ordI (a.N - b.N) add)
  else if a.Kind = 1 ∨ a.Kind = 4 then (if add ≠ 0 then false else opHolds op (cmpV a b))
  else false

theorem order_int_spec (a b : Int) : Fun1 Tryz.prog 64 [tV (.int .i64 a), tV (.int .i64 b)] (tV (.int .i64 (ordI a b))) := by
  refine Spec.enter Tryz.func64 rfl rfl fun h0 w0 fr0 => ?_
  refine J_seq ?_
  refine J_region ?_
  refine JL_step rfl rfl rfl (step_assign Sub.rfl) ?_
  refine JL_nil ?_
  refine J_seq ?_
  refine J_block ?_
  refine J_seq ?_
  refine J_region ?_
  refine JL_step rfl rfl rfl (step_move Sub.rfl) ?_
  refine JL_step rfl rfl rfl (step_move Sub.rfl) ?_
  refine JL_step rfl rfl rfl (step_lss Sub.rfl Sub.rfl) ?_
  refine JL_step rfl rfl rfl (step_assign Sub.rfl) ?_
  refine JL_nil ?_
  refine J_cond Sub.rfl (fun hc1 => ?_) (fun hc1 => ?_)
  · try simp only [decide_eq_true_eq, decide_eq_false_iff_not, Bool.and_eq_true, Bool.or_eq_true, Bool.and_eq_false_iff, Bool.or_eq_false_iff, Bool.not_eq_true', Bool.not_eq_false', Int.not_lt, Int.not_le, Bool.not_true, Bool.not_false] at hc1
    refine J_seq ?_
    refine J_region ?_
    refine JL_step rfl rfl rfl (step_assign Sub.rfl) ?_
    refine JL_nil ?_
    refine J_ret ?_
    refine K_ret1 (t := 4) rfl () ?_
    refine Sub.int ?_
    simp [ordI, *]
  · try simp only [decide_eq_true_eq, decide_eq_false_iff_not, Bool.and_eq_true, Bool.or_eq_true, Bool.and_eq_false_iff, Bool.or_eq_false_iff, Bool.not_eq_true', Bool.not_eq_false', Int.not_lt, Int.not_le, Bool.not_true, Bool.not_false] at hc1
    refine J_seq ?_
    refine J_region ?_
    refine JL_step rfl rfl rfl (step_move Sub.rfl) ?_
    refine JL_step rfl rfl rfl (step_move Sub.rfl) ?_
    refine JL_step rfl rfl rfl (step_gtr Sub.rfl Sub.rfl) ?_
    refine JL_step rfl rfl rfl (step_assign Sub.rfl) ?_
    refine JL_nil ?_
    refine J_cond Sub.rfl (fun hc2 => ?_) (fun hc2 => ?_)
    · try simp only [decide_eq_true_eq, decide_eq_false_iff_not, Bool.and_eq_true, Bool.or_eq_true, Bool.and_eq_false_iff, Bool.or_eq_false_iff, Bool.not_eq_true', Bool.not_eq_false', Int.not_lt, Int.not_le, Bool.not_true, Bool.not_false] at hc2
      refine J_seq ?_
      refine J_region ?_
      refine JL_step rfl rfl rfl (step_assign Sub.rfl) ?_
      refine JL_nil ?_
      refine J_ret ?_
      refine K_ret1 (t := 4) rfl () ?_
      refine Sub.int ?_
      have : ¬ a < b := by omega
      simp [ordI, *]
    · try simp only [decide_eq_true_eq, decide_eq_false_iff_not, Bool.and_eq_true, Bool.or_eq_true, Bool.and_eq_false_iff, Bool.or_eq_false_iff, Bool.not_eq_true', Bool.not_eq_false', Int.not_lt, Int.not_le, Bool.not_true, Bool.not_false] at hc2
      refine J_skip ?_
      refine J_seq ?_
      refine J_region ?_
      refine JL_step rfl rfl rfl (step_assign Sub.rfl) ?_
      refine JL_nil ?_
      refine J_ret ?_
      refine K_ret1 (t := 4) rfl () ?_
      refine Sub.int ?_
      have h1 : ¬ a < b := by omega
      have h2 : ¬ b < a := by omega
      simp [ordI, h1, h2]
theorem order_str_spec (a b : ByteArray) : Fun1 Tryz.prog 83 [tV (.string a), tV (.string b)] (tV (.int .i64 (ordS a b))) := by
  refine Spec.enter Tryz.func83 rfl rfl fun h0 w0 fr0 => ?_
  refine J_seq ?_
  refine J_region ?_
  refine JL_step rfl rfl rfl (step_assign Sub.rfl) ?_
  refine JL_nil ?_
  refine J_seq ?_
  refine J_block ?_
  refine J_seq ?_
  refine J_region ?_
  refine JL_step rfl rfl rfl (step_move Sub.rfl) ?_
  refine JL_step rfl rfl rfl (step_move Sub.rfl) ?_
  refine JL_step rfl rfl rfl (step_lss_str Sub.rfl Sub.rfl) ?_
  refine JL_step rfl rfl rfl (step_assign Sub.rfl) ?_
  refine JL_nil ?_
  refine J_cond Sub.rfl (fun hc1 => ?_) (fun hc1 => ?_)
  · try simp only [decide_eq_true_eq, decide_eq_false_iff_not, Bool.and_eq_true, Bool.or_eq_true, Bool.and_eq_false_iff, Bool.or_eq_false_iff, Bool.not_eq_true', Bool.not_eq_false', Int.not_lt, Int.not_le, Bool.not_true, Bool.not_false] at hc1
    refine J_seq ?_
    refine J_region ?_
    refine JL_step rfl rfl rfl (step_assign Sub.rfl) ?_
    refine JL_nil ?_
    refine J_ret ?_
    refine K_ret1 (t := 4) rfl () ?_
    refine Sub.int ?_
    simp [ordS, hc1]
  · try simp only [decide_eq_true_eq, decide_eq_false_iff_not, Bool.and_eq_true, Bool.or_eq_true, Bool.and_eq_false_iff, Bool.or_eq_false_iff, Bool.not_eq_true', Bool.not_eq_false', Int.not_lt, Int.not_le, Bool.not_true, Bool.not_false] at hc1
    refine J_seq ?_
    refine J_region ?_
    refine JL_step rfl rfl rfl (step_move Sub.rfl) ?_
    refine JL_step rfl rfl rfl (step_move Sub.rfl) ?_
    refine JL_step rfl rfl rfl (step_gtr_str Sub.rfl Sub.rfl) ?_
    refine JL_step rfl rfl rfl (step_assign Sub.rfl) ?_
    refine JL_nil ?_
    refine J_cond Sub.rfl (fun hc2 => ?_) (fun hc2 => ?_)
    · try simp only [decide_eq_true_eq, decide_eq_false_iff_not, Bool.and_eq_true, Bool.or_eq_true, Bool.and_eq_false_iff, Bool.or_eq_false_iff, Bool.not_eq_true', Bool.not_eq_false', Int.not_lt, Int.not_le, Bool.not_true, Bool.not_false] at hc2
      refine J_seq ?_
      refine J_region ?_
      refine JL_step rfl rfl rfl (step_assign Sub.rfl) ?_
      refine JL_nil ?_
      refine J_ret ?_
      refine K_ret1 (t := 4) rfl () ?_
      refine Sub.int ?_
      simp only [ordS, hc1, hc2]; simp
    · try simp only [decide_eq_true_eq, decide_eq_false_iff_not, Bool.and_eq_true, Bool.or_eq_true, Bool.and_eq_false_iff, Bool.or_eq_false_iff, Bool.not_eq_true', Bool.not_eq_false', Int.not_lt, Int.not_le, Bool.not_true, Bool.not_false] at hc2
      refine J_skip ?_
      refine J_seq ?_
      refine J_region ?_
      refine JL_step rfl rfl rfl (step_assign Sub.rfl) ?_
      refine JL_nil ?_
      refine J_ret ?_
      refine K_ret1 (t := 4) rfl () ?_
      refine Sub.int ?_
      simp only [ordS, hc1]; simp_all
theorem Compare_spec (a b : GValue) : Fun1 Tryz.prog 65 [rValue.ty a, rValue.ty b] (tV (.int .i64 (cmpV a b))) := by
  refine Spec.enter Tryz.func65 rfl rfl fun h0 w0 fr0 => ?_
  refine J_seq ?_
  refine J_region ?_
  refine JL_step rfl rfl rfl (step_box (R := rValue) Sub.rfl) ?_
  refine JL_step rfl rfl rfl (step_box (R := rValue) Sub.rfl) ?_
  refine JL_step rfl rfl rfl (step_assign Sub.rfl) ?_
  refine JL_nil ?_
  refine J_seq ?_
  refine J_seq ?_
  refine J_region ?_
  refine JL_step rfl rfl rfl (step_fieldAddr so60 Sub.rfl rfl) ?_
  refine JL_step rfl rfl rfl (step_load_ptr ty3 Sub.rfl) ?_
  refine JL_step rfl rfl rfl (step_fieldAddr so60 Sub.rfl rfl) ?_
  refine JL_step rfl rfl rfl (step_load_ptr ty3 Sub.rfl) ?_
  refine JL_step rfl rfl rfl (step_call0 (order_int_spec _ _) ⟨Sub.rfl, Sub.rfl, trivial⟩ Tryz.call64) ?_
  refine JL_step rfl rfl rfl (step_assign Sub.rfl) ?_
  refine JL_nil ?_
  refine J_seq ?_
  refine J_region ?_
  refine JL_step rfl rfl rfl (step_move Sub.rfl) ?_
  refine JL_step rfl rfl rfl (step_neq Sub.rfl Sub.rfl) ?_
  refine JL_nil ?_
  refine J_cond Sub.rfl (fun hc1 => ?_) (fun hc1 => ?_)
  · try simp only [decide_eq_true_eq, decide_eq_false_iff_not, Bool.and_eq_true, Bool.or_eq_true, Bool.and_eq_false_iff, Bool.or_eq_false_iff, Bool.not_eq_true', Bool.not_eq_false', Int.not_lt, Int.not_le, Bool.not_true, Bool.not_false] at hc1
    refine J_seq ?_
    refine J_region ?_
    refine JL_step rfl rfl rfl (step_move Sub.rfl) ?_
    refine JL_step rfl rfl rfl (step_assign Sub.rfl) ?_
    refine JL_nil ?_
    refine J_ret ?_
    refine K_ret1 (t := 4) rfl () ?_
    refine Sub.int ?_
    simp [cmpV, hc1]
  · try simp only [decide_eq_true_eq, decide_eq_false_iff_not, Bool.and_eq_true, Bool.or_eq_true, Bool.and_eq_false_iff, Bool.or_eq_false_iff, Bool.not_eq_true', Bool.not_eq_false', Int.not_lt, Int.not_le, Bool.not_true, Bool.not_false] at hc1
    refine J_skip ?_
    refine J_seq ?_
    refine J_seq ?_
    refine J_region ?_
    refine JL_step rfl rfl rfl (step_fieldAddr so60 Sub.rfl rfl) ?_
    refine JL_step rfl rfl rfl (step_load_ptr ty3 Sub.rfl) ?_
    refine JL_step rfl rfl rfl (step_fieldAddr so60 Sub.rfl rfl) ?_
    refine JL_step rfl rfl rfl (step_load_ptr ty3 Sub.rfl) ?_
    refine JL_step rfl rfl rfl (step_call0 (order_int_spec _ _) ⟨Sub.rfl, Sub.rfl, trivial⟩ Tryz.call64) ?_
    refine JL_step rfl rfl rfl (step_assign Sub.rfl) ?_
    refine JL_nil ?_
    refine J_seq ?_
    refine J_region ?_
    refine JL_step rfl rfl rfl (step_move Sub.rfl) ?_
    refine JL_step rfl rfl rfl (step_neq Sub.rfl Sub.rfl) ?_
    refine JL_nil ?_
    refine J_cond Sub.rfl (fun hc2 => ?_) (fun hc2 => ?_)
    · try simp only [decide_eq_true_eq, decide_eq_false_iff_not, Bool.and_eq_true, Bool.or_eq_true, Bool.and_eq_false_iff, Bool.or_eq_false_iff, Bool.not_eq_true', Bool.not_eq_false', Int.not_lt, Int.not_le, Bool.not_true, Bool.not_false] at hc2
      refine J_seq ?_
      refine J_region ?_
      refine JL_step rfl rfl rfl (step_move Sub.rfl) ?_
      refine JL_step rfl rfl rfl (step_assign Sub.rfl) ?_
      refine JL_nil ?_
      refine J_ret ?_
      refine K_ret1 (t := 4) rfl () ?_
      refine Sub.int ?_
      simp [cmpV, hc1, hc2]
    · try simp only [decide_eq_true_eq, decide_eq_false_iff_not, Bool.and_eq_true, Bool.or_eq_true, Bool.and_eq_false_iff, Bool.or_eq_false_iff, Bool.not_eq_true', Bool.not_eq_false', Int.not_lt, Int.not_le, Bool.not_true, Bool.not_false] at hc2
      refine J_skip ?_
      refine J_seq ?_
      refine J_region ?_
      refine JL_step rfl rfl rfl (step_fieldAddr so60 Sub.rfl rfl) ?_
      refine JL_step rfl rfl rfl (step_load_ptr ty9 Sub.rfl) ?_
      refine JL_step rfl rfl rfl (step_fieldAddr so60 Sub.rfl rfl) ?_
      refine JL_step rfl rfl rfl (step_load_ptr ty9 Sub.rfl) ?_
      refine JL_step rfl rfl rfl (step_call0 (order_str_spec _ _) ⟨Sub.rfl, Sub.rfl, trivial⟩ Tryz.call83) ?_
      refine JL_step rfl rfl rfl (step_assign Sub.rfl) ?_
      refine JL_nil ?_
      refine J_ret ?_
      refine K_ret1 (t := 4) rfl () ?_
      refine Sub.int ?_
      simp [cmpV, hc1, hc2]
theorem Valid_spec (v : GValue) : Fun1 Tryz.prog 63 [rValue.ty v] (tV (.bool (validV v))) := by
  refine Spec.enter Tryz.func63 rfl rfl fun h0 w0 fr0 => ?_
  refine J_seq ?_
  refine J_region ?_
  refine JL_step rfl rfl rfl (step_box (R := rValue) Sub.rfl) ?_
  refine JL_step rfl rfl rfl (step_assign Sub.rfl) ?_
  refine JL_nil ?_
  refine J_seq ?_
  refine J_seq ?_
  refine J_region ?_
  refine JL_step rfl rfl rfl (step_fieldAddr so60 Sub.rfl rfl) ?_
  refine JL_step rfl rfl rfl (step_load_ptr ty3 Sub.rfl) ?_
  refine JL_step rfl rfl rfl (step_neq Sub.rfl Sub.rfl) ?_
  refine JL_step rfl rfl rfl (step_move Sub.rfl) ?_
  refine JL_stepG rfl rfl rfl (Gd.plain Sub.rfl) rfl rfl (fun hw => step_fieldAddr so60 Sub.rfl rfl) ?_
  refine JL_stepG rfl rfl rfl (Gd.plain Sub.rfl) rfl rfl (fun hw => step_load_ptr ty9 (Sub.w hw)) ?_
  refine JL_stepG rfl rfl rfl (Gd.plain Sub.rfl) rfl rfl (fun hw => step_neq_str (Sub.w hw) Sub.rfl) ?_
  refine JL_step rfl rfl rfl (step_pick_and Sub.rfl Sub.rfl) ?_
  refine JL_nil ?_
  refine J_cond Sub.rfl (fun hc1 => ?_) (fun hc1 => ?_)
  · try simp only [decide_eq_true_eq, decide_eq_false_iff_not, Bool.and_eq_true, Bool.or_eq_true, Bool.and_eq_false_iff, Bool.or_eq_false_iff, Bool.not_eq_true', Bool.not_eq_false', Int.not_lt, Int.not_le, Bool.not_true, Bool.not_false] at hc1
    refine J_seq ?_
    refine J_region ?_
    refine JL_step rfl rfl rfl (step_assign Sub.rfl) ?_
    refine JL_nil ?_
    refine J_ret ?_
    refine K_ret1 (t := 2) rfl () ?_
    refine Sub.bool ?_
    simp [validV, hc1]
  · try simp only [decide_eq_true_eq, decide_eq_false_iff_not, Bool.and_eq_true, Bool.or_eq_true, Bool.and_eq_false_iff, Bool.or_eq_false_iff, Bool.not_eq_true', Bool.not_eq_false', Int.not_lt, Int.not_le, Bool.not_true, Bool.not_false] at hc1
    refine J_skip ?_
    refine J_seq ?_
    refine J_region ?_
    refine JL_step rfl rfl rfl (step_assign Sub.rfl) ?_
    refine JL_step rfl rfl rfl (step_assign Sub.rfl) ?_
    refine JL_nil ?_
    refine J_seq ?_
    refine J_seq ?_
    refine J_region ?_
    refine JL_step rfl rfl rfl (step_fieldAddr so60 Sub.rfl rfl) ?_
    refine JL_step rfl rfl rfl (step_load_ptr ty3 Sub.rfl) ?_
    refine JL_nil ?_
    refine J_block ?_
    refine J_seq ?_
    refine J_region ?_
    refine JL_step rfl rfl rfl (step_eql Sub.rfl Sub.rfl) ?_
    refine JL_step rfl rfl rfl (step_assign Sub.rfl) ?_
    refine JL_nil ?_
    refine J_cond Sub.rfl (fun hc2 => ?_) (fun hc2 => ?_)
    · try simp only [decide_eq_true_eq, decide_eq_false_iff_not, Bool.and_eq_true, Bool.or_eq_true, Bool.and_eq_false_iff, Bool.or_eq_false_iff, Bool.not_eq_true', Bool.not_eq_false', Int.not_lt, Int.not_le, Bool.not_true, Bool.not_false] at hc2
      refine J_skip ?_
      refine J_seq ?_
      refine J_region ?_
      refine JL_step rfl rfl rfl (step_move Sub.rfl) ?_
      refine JL_step rfl rfl rfl (step_fieldAddr so60 Sub.rfl rfl) ?_
      refine JL_step rfl rfl rfl (step_load_ptr ty3 Sub.rfl) ?_
      refine JL_step rfl rfl rfl (step_leq Sub.rfl Sub.rfl) ?_
      refine JL_step rfl rfl rfl (step_move Sub.rfl) ?_
      refine JL_stepG rfl rfl rfl (Gd.plain Sub.rfl) rfl rfl (fun hw => step_fieldAddr so60 Sub.rfl rfl) ?_
      refine JL_stepG rfl rfl rfl (Gd.plain Sub.rfl) rfl rfl (fun hw => step_load_ptr ty3 (Sub.w hw)) ?_
      refine JL_stepG rfl rfl rfl (Gd.plain Sub.rfl) rfl rfl (fun hw => step_move Sub.rfl) ?_
      refine JL_stepG rfl rfl rfl (Gd.plain Sub.rfl) rfl rfl (fun hw => step_leq (Sub.w hw) (Sub.w hw)) ?_
      refine JL_step rfl rfl rfl (step_pick_and Sub.rfl Sub.rfl) ?_
      refine JL_step rfl rfl rfl (step_assign Sub.rfl) ?_
      refine JL_nil ?_
      refine J_ret ?_
      refine K_ret1 (t := 2) rfl () ?_
      refine Sub.bool ?_
      have h1 : ¬ (v.Kind ≠ 1 ∧ v.Text ≠ ⟨#[]⟩) := by rintro ⟨p, q⟩; rcases hc1 with hc1 | hc1 <;> contradiction
      simp only [validV, if_neg h1]
      simp [*]
    · try simp only [decide_eq_true_eq, decide_eq_false_iff_not, Bool.and_eq_true, Bool.or_eq_true, Bool.and_eq_false_iff, Bool.or_eq_false_iff, Bool.not_eq_true', Bool.not_eq_false', Int.not_lt, Int.not_le, Bool.not_true, Bool.not_false] at hc2
      refine J_seq ?_
      refine J_region ?_
      refine JL_step rfl rfl rfl (step_eql Sub.rfl Sub.rfl) ?_
      refine JL_step rfl rfl rfl (step_assign Sub.rfl) ?_
      refine JL_nil ?_
      refine J_cond Sub.rfl (fun hc3 => ?_) (fun hc3 => ?_)
      · try simp only [decide_eq_true_eq, decide_eq_false_iff_not, Bool.and_eq_true, Bool.or_eq_true, Bool.and_eq_false_iff, Bool.or_eq_false_iff, Bool.not_eq_true', Bool.not_eq_false', Int.not_lt, Int.not_le, Bool.not_true, Bool.not_false] at hc3
        refine J_seq ?_
        refine J_region ?_
        refine JL_step rfl rfl rfl (step_fieldAddr so60 Sub.rfl rfl) ?_
        refine JL_step rfl rfl rfl (step_load_ptr ty9 Sub.rfl) ?_
        refine JL_step rfl rfl rfl (step_len_str Tryz.underlying9 Sub.rfl) ?_
        refine JL_step rfl rfl rfl (step_gtr Sub.rfl Sub.rfl) ?_
        refine JL_nil ?_
        refine J_cond Sub.rfl (fun hc4 => ?_) (fun hc4 => ?_)
        · try simp only [decide_eq_true_eq, decide_eq_false_iff_not, Bool.and_eq_true, Bool.or_eq_true, Bool.and_eq_false_iff, Bool.or_eq_false_iff, Bool.not_eq_true', Bool.not_eq_false', Int.not_lt, Int.not_le, Bool.not_true, Bool.not_false] at hc4
          refine J_seq ?_
          refine J_region ?_
          refine JL_step rfl rfl rfl (step_assign Sub.rfl) ?_
          refine JL_nil ?_
          refine J_ret ?_
          refine K_ret1 (t := 2) rfl () ?_
          refine Sub.bool ?_
          have h1 : ¬ (v.Kind ≠ 1 ∧ v.Text ≠ ⟨#[]⟩) := by rintro ⟨p, q⟩; rcases hc1 with hc1 | hc1 <;> contradiction
          simp only [validV, if_neg h1]
          first | (simp [*]; done) | (simp_all; omega)
        · try simp only [decide_eq_true_eq, decide_eq_false_iff_not, Bool.and_eq_true, Bool.or_eq_true, Bool.and_eq_false_iff, Bool.or_eq_false_iff, Bool.not_eq_true', Bool.not_eq_false', Int.not_lt, Int.not_le, Bool.not_true, Bool.not_false] at hc4
          refine J_skip ?_
          refine J_seq ?_
          refine J_region ?_
          refine JL_step rfl rfl rfl (step_move Sub.rfl) ?_
          refine JL_step rfl rfl rfl (step_fieldAddr so60 Sub.rfl rfl) ?_
          refine JL_step rfl rfl rfl (step_load_ptr ty3 Sub.rfl) ?_
          refine JL_step rfl rfl rfl (step_leq Sub.rfl Sub.rfl) ?_
          refine JL_step rfl rfl rfl (step_move Sub.rfl) ?_
          refine JL_stepG rfl rfl rfl (Gd.plain Sub.rfl) rfl rfl (fun hw => step_fieldAddr so60 Sub.rfl rfl) ?_
          refine JL_stepG rfl rfl rfl (Gd.plain Sub.rfl) rfl rfl (fun hw => step_load_ptr ty3 (Sub.w hw)) ?_
          refine JL_stepG rfl rfl rfl (Gd.plain Sub.rfl) rfl rfl (fun hw => step_move Sub.rfl) ?_
          refine JL_stepG rfl rfl rfl (Gd.plain Sub.rfl) rfl rfl (fun hw => step_leq (Sub.w hw) (Sub.w hw)) ?_
          refine JL_step rfl rfl rfl (step_pick_and Sub.rfl Sub.rfl) ?_
          refine JL_step rfl rfl rfl (step_assign Sub.rfl) ?_
          refine JL_nil ?_
          refine J_ret ?_
          refine K_ret1 (t := 2) rfl () ?_
          refine Sub.bool ?_
          have h1 : ¬ (v.Kind ≠ 1 ∧ v.Text ≠ ⟨#[]⟩) := by rintro ⟨p, q⟩; rcases hc1 with hc1 | hc1 <;> contradiction
          simp only [validV, if_neg h1]
          first | (simp [*]; done) | (simp_all; omega)
      · try simp only [decide_eq_true_eq, decide_eq_false_iff_not, Bool.and_eq_true, Bool.or_eq_true, Bool.and_eq_false_iff, Bool.or_eq_false_iff, Bool.not_eq_true', Bool.not_eq_false', Int.not_lt, Int.not_le, Bool.not_true, Bool.not_false] at hc3
        refine J_seq ?_
        refine J_region ?_
        refine JL_step rfl rfl rfl (step_eql Sub.rfl Sub.rfl) ?_
        refine JL_step rfl rfl rfl (step_assign Sub.rfl) ?_
        refine JL_nil ?_
        refine J_cond Sub.rfl (fun hc5 => ?_) (fun hc5 => ?_)
        · try simp only [decide_eq_true_eq, decide_eq_false_iff_not, Bool.and_eq_true, Bool.or_eq_true, Bool.and_eq_false_iff, Bool.or_eq_false_iff, Bool.not_eq_true', Bool.not_eq_false', Int.not_lt, Int.not_le, Bool.not_true, Bool.not_false] at hc5
          refine J_region ?_
          refine JL_step rfl rfl rfl (step_assign Sub.rfl) ?_
          refine JL_step rfl rfl rfl (step_assign Sub.rfl) ?_
          refine JL_nil ?_
          refine J_seq ?_
          refine J_region ?_
          refine JL_step rfl rfl rfl (step_move Sub.rfl) ?_
          refine JL_step rfl rfl rfl (step_fieldAddr so60 Sub.rfl rfl) ?_
          refine JL_step rfl rfl rfl (step_load_ptr ty3 Sub.rfl) ?_
          refine JL_step rfl rfl rfl (step_leq Sub.rfl Sub.rfl) ?_
          refine JL_step rfl rfl rfl (step_move Sub.rfl) ?_
          refine JL_stepG rfl rfl rfl (Gd.plain Sub.rfl) rfl rfl (fun hw => step_fieldAddr so60 Sub.rfl rfl) ?_
          refine JL_stepG rfl rfl rfl (Gd.plain Sub.rfl) rfl rfl (fun hw => step_load_ptr ty3 (Sub.w hw)) ?_
          refine JL_stepG rfl rfl rfl (Gd.plain Sub.rfl) rfl rfl (fun hw => step_move Sub.rfl) ?_
          refine JL_stepG rfl rfl rfl (Gd.plain Sub.rfl) rfl rfl (fun hw => step_leq (Sub.w hw) (Sub.w hw)) ?_
          refine JL_step rfl rfl rfl (step_pick_and Sub.rfl Sub.rfl) ?_
          refine JL_step rfl rfl rfl (step_assign Sub.rfl) ?_
          refine JL_nil ?_
          refine J_ret ?_
          refine K_ret1 (t := 2) rfl () ?_
          refine Sub.bool ?_
          have h1 : ¬ (v.Kind ≠ 1 ∧ v.Text ≠ ⟨#[]⟩) := by rintro ⟨p, q⟩; rcases hc1 with hc1 | hc1 <;> contradiction
          simp only [validV, if_neg h1]
          first | (simp [*]; done) | (simp_all; omega)
        · try simp only [decide_eq_true_eq, decide_eq_false_iff_not, Bool.and_eq_true, Bool.or_eq_true, Bool.and_eq_false_iff, Bool.or_eq_false_iff, Bool.not_eq_true', Bool.not_eq_false', Int.not_lt, Int.not_le, Bool.not_true, Bool.not_false] at hc5
          refine J_seq ?_
          refine J_region ?_
          refine JL_step rfl rfl rfl (step_eql Sub.rfl Sub.rfl) ?_
          refine JL_step rfl rfl rfl (step_assign Sub.rfl) ?_
          refine JL_nil ?_
          refine J_cond Sub.rfl (fun hc6 => ?_) (fun hc6 => ?_)
          · try simp only [decide_eq_true_eq, decide_eq_false_iff_not, Bool.and_eq_true, Bool.or_eq_true, Bool.and_eq_false_iff, Bool.or_eq_false_iff, Bool.not_eq_true', Bool.not_eq_false', Int.not_lt, Int.not_le, Bool.not_true, Bool.not_false] at hc6
            refine J_region ?_
            refine JL_step rfl rfl rfl (step_assign Sub.rfl) ?_
            refine JL_nil ?_
            refine J_seq ?_
            refine J_region ?_
            refine JL_step rfl rfl rfl (step_move Sub.rfl) ?_
            refine JL_step rfl rfl rfl (step_fieldAddr so60 Sub.rfl rfl) ?_
            refine JL_step rfl rfl rfl (step_load_ptr ty3 Sub.rfl) ?_
            refine JL_step rfl rfl rfl (step_leq Sub.rfl Sub.rfl) ?_
            refine JL_step rfl rfl rfl (step_move Sub.rfl) ?_
            refine JL_stepG rfl rfl rfl (Gd.plain Sub.rfl) rfl rfl (fun hw => step_fieldAddr so60 Sub.rfl rfl) ?_
            refine JL_stepG rfl rfl rfl (Gd.plain Sub.rfl) rfl rfl (fun hw => step_load_ptr ty3 (Sub.w hw)) ?_
            refine JL_stepG rfl rfl rfl (Gd.plain Sub.rfl) rfl rfl (fun hw => step_move Sub.rfl) ?_
            refine JL_stepG rfl rfl rfl (Gd.plain Sub.rfl) rfl rfl (fun hw => step_leq (Sub.w hw) (Sub.w hw)) ?_
            refine JL_step rfl rfl rfl (step_pick_and Sub.rfl Sub.rfl) ?_
            refine JL_step rfl rfl rfl (step_assign Sub.rfl) ?_
            refine JL_nil ?_
            refine J_ret ?_
            refine K_ret1 (t := 2) rfl () ?_
            refine Sub.bool ?_
            have h1 : ¬ (v.Kind ≠ 1 ∧ v.Text ≠ ⟨#[]⟩) := by rintro ⟨p, q⟩; rcases hc1 with hc1 | hc1 <;> contradiction
            simp only [validV, if_neg h1]
            first | (simp [*]; done) | (simp_all; omega)
          · try simp only [decide_eq_true_eq, decide_eq_false_iff_not, Bool.and_eq_true, Bool.or_eq_true, Bool.and_eq_false_iff, Bool.or_eq_false_iff, Bool.not_eq_true', Bool.not_eq_false', Int.not_lt, Int.not_le, Bool.not_true, Bool.not_false] at hc6
            refine J_seq ?_
            refine J_region ?_
            refine JL_step rfl rfl rfl (step_eql Sub.rfl Sub.rfl) ?_
            refine JL_step rfl rfl rfl (step_assign Sub.rfl) ?_
            refine JL_nil ?_
            refine J_cond Sub.rfl (fun hc7 => ?_) (fun hc7 => ?_)
            · try simp only [decide_eq_true_eq, decide_eq_false_iff_not, Bool.and_eq_true, Bool.or_eq_true, Bool.and_eq_false_iff, Bool.or_eq_false_iff, Bool.not_eq_true', Bool.not_eq_false', Int.not_lt, Int.not_le, Bool.not_true, Bool.not_false] at hc7
              refine J_region ?_
              refine JL_step rfl rfl rfl (step_assign Sub.rfl) ?_
              refine JL_nil ?_
              refine J_seq ?_
              refine J_region ?_
              refine JL_step rfl rfl rfl (step_move Sub.rfl) ?_
              refine JL_step rfl rfl rfl (step_fieldAddr so60 Sub.rfl rfl) ?_
              refine JL_step rfl rfl rfl (step_load_ptr ty3 Sub.rfl) ?_
              refine JL_step rfl rfl rfl (step_leq Sub.rfl Sub.rfl) ?_
              refine JL_step rfl rfl rfl (step_move Sub.rfl) ?_
              refine JL_stepG rfl rfl rfl (Gd.plain Sub.rfl) rfl rfl (fun hw => step_fieldAddr so60 Sub.rfl rfl) ?_
              refine JL_stepG rfl rfl rfl (Gd.plain Sub.rfl) rfl rfl (fun hw => step_load_ptr ty3 (Sub.w hw)) ?_
              refine JL_stepG rfl rfl rfl (Gd.plain Sub.rfl) rfl rfl (fun hw => step_move Sub.rfl) ?_
              refine JL_stepG rfl rfl rfl (Gd.plain Sub.rfl) rfl rfl (fun hw => step_leq (Sub.w hw) (Sub.w hw)) ?_
              refine JL_step rfl rfl rfl (step_pick_and Sub.rfl Sub.rfl) ?_
              refine JL_step rfl rfl rfl (step_assign Sub.rfl) ?_
              refine JL_nil ?_
              refine J_ret ?_
              refine K_ret1 (t := 2) rfl () ?_
              refine Sub.bool ?_
              have h1 : ¬ (v.Kind ≠ 1 ∧ v.Text ≠ ⟨#[]⟩) := by rintro ⟨p, q⟩; rcases hc1 with hc1 | hc1 <;> contradiction
              simp only [validV, if_neg h1]
              first | (simp [*]; done) | (simp_all; omega)
            · try simp only [decide_eq_true_eq, decide_eq_false_iff_not, Bool.and_eq_true, Bool.or_eq_true, Bool.and_eq_false_iff, Bool.or_eq_false_iff, Bool.not_eq_true', Bool.not_eq_false', Int.not_lt, Int.not_le, Bool.not_true, Bool.not_false] at hc7
              refine J_seq ?_
              refine J_region ?_
              refine JL_step rfl rfl rfl (step_assign Sub.rfl) ?_
              refine JL_nil ?_
              refine J_ret ?_
              refine K_ret1 (t := 2) rfl () ?_
              refine Sub.bool ?_
              have h1 : ¬ (v.Kind ≠ 1 ∧ v.Text ≠ ⟨#[]⟩) := by rintro ⟨p, q⟩; rcases hc1 with hc1 | hc1 <;> contradiction
              simp only [validV, if_neg h1]
              first | (simp [*]; done) | (simp_all; omega)
theorem cE_spec (c : Int) : Fun1 Tryz.prog 84 [tV (.int .i64 c)] (tV (.bool (decide (c = 0)))) := by
  refine Spec.enter Tryz.func84 rfl rfl fun h0 w0 fr0 => ?_
  refine J_seq ?_
  refine J_region ?_
  refine JL_step rfl rfl rfl (step_assign Sub.rfl) ?_
  refine JL_nil ?_
  refine J_seq ?_
  refine J_region ?_
  refine JL_step rfl rfl rfl (step_move Sub.rfl) ?_
  refine JL_step rfl rfl rfl (step_eql Sub.rfl Sub.rfl) ?_
  refine JL_step rfl rfl rfl (step_assign Sub.rfl) ?_
  refine JL_nil ?_
  refine J_ret ?_
  exact K_ret1 (t := 2) rfl () Sub.rfl
theorem cU_spec (c : Int) : Fun1 Tryz.prog 85 [tV (.int .i64 c)] (tV (.bool (!decide (c = 0)))) := by
  refine Spec.enter Tryz.func85 rfl rfl fun h0 w0 fr0 => ?_
  refine J_seq ?_
  refine J_region ?_
  refine JL_step rfl rfl rfl (step_assign Sub.rfl) ?_
  refine JL_nil ?_
  refine J_seq ?_
  refine J_region ?_
  refine JL_step rfl rfl rfl (step_move Sub.rfl) ?_
  refine JL_step rfl rfl rfl (step_neq Sub.rfl Sub.rfl) ?_
  refine JL_step rfl rfl rfl (step_assign Sub.rfl) ?_
  refine JL_nil ?_
  refine J_ret ?_
  exact K_ret1 (t := 2) rfl () Sub.rfl
theorem cL_spec (c : Int) : Fun1 Tryz.prog 86 [tV (.int .i64 c)] (tV (.bool (decide (c < 0)))) := by
  refine Spec.enter Tryz.func86 rfl rfl fun h0 w0 fr0 => ?_
  refine J_seq ?_
  refine J_region ?_
  refine JL_step rfl rfl rfl (step_assign Sub.rfl) ?_
  refine JL_nil ?_
  refine J_seq ?_
  refine J_region ?_
  refine JL_step rfl rfl rfl (step_move Sub.rfl) ?_
  refine JL_step rfl rfl rfl (step_lss Sub.rfl Sub.rfl) ?_
  refine JL_step rfl rfl rfl (step_assign Sub.rfl) ?_
  refine JL_nil ?_
  refine J_ret ?_
  exact K_ret1 (t := 2) rfl () Sub.rfl
theorem cA_spec (c : Int) : Fun1 Tryz.prog 87 [tV (.int .i64 c)] (tV (.bool (decide (c ≤ 0)))) := by
  refine Spec.enter Tryz.func87 rfl rfl fun h0 w0 fr0 => ?_
  refine J_seq ?_
  refine J_region ?_
  refine JL_step rfl rfl rfl (step_assign Sub.rfl) ?_
  refine JL_nil ?_
  refine J_seq ?_
  refine J_region ?_
  refine JL_step rfl rfl rfl (step_move Sub.rfl) ?_
  refine JL_step rfl rfl rfl (step_leq Sub.rfl Sub.rfl) ?_
  refine JL_step rfl rfl rfl (step_assign Sub.rfl) ?_
  refine JL_nil ?_
  refine J_ret ?_
  exact K_ret1 (t := 2) rfl () Sub.rfl
def comps : List Gcomparison := [⟨1, .func (.func 84) #[] #[]⟩, ⟨2, .func (.func 85) #[] #[]⟩, ⟨3, .func (.func 86) #[] #[]⟩, ⟨4, .func (.func 87) #[] #[]⟩]

theorem comparisons_spec  : Fun1 Tryz.prog 66 [] (tSl rcomparison comps) := by
  refine Spec.enter Tryz.func66 rfl rfl fun h0 w0 fr0 => ?_
  refine J_seq ?_
  refine J_region ?_
  refine JL_step rfl rfl rfl (step_assign Sub.rfl) ?_
  refine JL_nil ?_
  refine J_seq ?_
  refine J_region ?_
  refine JL_step rfl rfl rfl (step_build (x := (⟨1, .func (.func 84) #[] #[]⟩ : Gcomparison)) (zs := [[Value.int .i64 0], [Value.nilFunc]]) so98 (fun w => Tryz.zeroValue98 w) ⟨Sub.rfl, (by first | exact Sub.rfl | exact Sub.rV rfl), trivial⟩ ⟨⟨Sub.rfl, rfl⟩, ⟨(by first | exact Sub.rfl | exact Sub.rV rfl), rfl⟩, trivial⟩) ?_
  refine JL_step rfl rfl rfl (step_build (x := (⟨2, .func (.func 85) #[] #[]⟩ : Gcomparison)) (zs := [[Value.int .i64 0], [Value.nilFunc]]) so98 (fun w => Tryz.zeroValue98 w) ⟨Sub.rfl, (by first | exact Sub.rfl | exact Sub.rV rfl), trivial⟩ ⟨⟨Sub.rfl, rfl⟩, ⟨(by first | exact Sub.rfl | exact Sub.rV rfl), rfl⟩, trivial⟩) ?_
  refine JL_step rfl rfl rfl (step_build (x := (⟨3, .func (.func 86) #[] #[]⟩ : Gcomparison)) (zs := [[Value.int .i64 0], [Value.nilFunc]]) so98 (fun w => Tryz.zeroValue98 w) ⟨Sub.rfl, (by first | exact Sub.rfl | exact Sub.rV rfl), trivial⟩ ⟨⟨Sub.rfl, rfl⟩, ⟨(by first | exact Sub.rfl | exact Sub.rV rfl), rfl⟩, trivial⟩) ?_
  refine JL_step rfl rfl rfl (step_build (x := (⟨4, .func (.func 87) #[] #[]⟩ : Gcomparison)) (zs := [[Value.int .i64 0], [Value.nilFunc]]) so98 (fun w => Tryz.zeroValue98 w) ⟨Sub.rfl, (by first | exact Sub.rfl | exact Sub.rV rfl), trivial⟩ ⟨⟨Sub.rfl, rfl⟩, ⟨(by first | exact Sub.rfl | exact Sub.rV rfl), rfl⟩, trivial⟩) ?_
  refine JL_step rfl rfl rfl (step_literal (ys := [_, _, _, _]) Tryz.underlying95 el98 ⟨rfl, Sub.rfl, rfl, Sub.rfl, rfl, Sub.rfl, rfl, Sub.rfl, trivial⟩ rfl (by decide)) ?_
  refine JL_step rfl rfl rfl (step_assign Sub.rfl) ?_
  refine JL_nil ?_
  refine J_ret ?_
  refine K_ret1 (t := 0) rfl () Sub.rfl
theorem step_comp {ro : Option Nat} {N : Nat} {ds : List Deferred} {h0 : PH} {w0 : World} {r : PH} {E : Env} {L : List SP} {d : Option Nat} {ty : Nat} {pos : String} {af : Array Edge} {g : Option (Nat × Bool)} {x y : Operand} {ts : Array Nat} {i : Nat} {c : Int}
    (hi : i < 4) (hx : Sub (opTy E x) (rV.ty (nth comps i).holds)) (hy : Sub (opTy E y) (tV (.int .i64 c))) :
    Step (X := Unit) ⟨Tryz.prog, ro, N, ds, h0, w0, r⟩ ⟨d, .call { callee := .value x, args := #[y], argTypes := ts }, ty, pos, af, g⟩ E L (fun _ => tV (.bool (opHolds (nth comps i).op c))) (fun _ => L) := by
  have key : ∀ f v, Fun1 Tryz.prog f [tV (.int .i64 c)] (tV (.bool v)) → (∀ args w, (callFunc f args).run Tryz.prog w = .ok (.enter f args) w) → (nth comps i).holds = .func (.func f) #[] #[] → opHolds (nth comps i).op c = v →
      Step (X := Unit) ⟨Tryz.prog, ro, N, ds, h0, w0, r⟩ ⟨d, .call { callee := .value x, args := #[y], argTypes := ts }, ty, pos, af, g⟩ E L (fun _ => tV (.bool (opHolds (nth comps i).op c))) (fun _ => L) := by
    intro f v hf he h1 h2
    rw [h2]
    refine step_callv0 (f := f) (aT := [tV (.int .i64 c)]) (As := []) (fun h u e => ?_) hf ⟨hy, trivial⟩ he
    obtain ⟨e1, _⟩ := hx h u e
    rw [h1] at e1
    exact ⟨[], e1, trivial⟩
  rcases i with _ | _ | _ | _ | i
  · exact key 84 _ (cE_spec c) Tryz.call84 rfl (by simp [opHolds, comps])
  · exact key 85 _ (cU_spec c) Tryz.call85 rfl (by simp [opHolds, comps])
  · exact key 86 _ (cL_spec c) Tryz.call86 rfl (by simp [opHolds, comps])
  · exact key 87 _ (cA_spec c) Tryz.call87 rfl (by simp [opHolds, comps])
  · omega
theorem opHolds_none {op c : Int} (h : ∀ k, k < 4 → (nth comps k).op ≠ op) : opHolds op c = false := by
  have h0 := h 0 (by omega); have h1 := h 1 (by omega); have h2 := h 2 (by omega); have h3 := h 3 (by omega)
  simp only [comps, nth] at h0 h1 h2 h3
  simp [opHolds, Ne.symm h0, Ne.symm h1, Ne.symm h2, Ne.symm h3]
theorem valid_N {v : GValue} (h : validV v = true) : -1000000000 ≤ v.N ∧ v.N ≤ 1000000000 := by
  unfold validV at h
  repeat' split at h
  all_goals simp at h
  all_goals omega
theorem in64_sub {a b : GValue} (ha : validV a = true) (hb : validV b = true) : in64 (a.N - b.N) := by
  have := valid_N ha
  have := valid_N hb
  unfold in64; omega

theorem Test_spec (a b : GValue) (op add : Int) : Fun1 Tryz.prog 45 [rValue.ty a, tV (.int .i64 op), rValue.ty b, tV (.int .i64 add)] (tV (.bool (testV a op b add))) := by
  refine Spec.enter Tryz.func45 rfl rfl fun h0 w0 fr0 => ?_
  refine J_seq ?_
  refine J_region ?_
  refine JL_step rfl rfl rfl (step_box (R := rValue) Sub.rfl) ?_
  refine JL_step rfl rfl rfl (step_box (R := rValue) Sub.rfl) ?_
  refine JL_step rfl rfl rfl (step_assign Sub.rfl) ?_
  refine JL_nil ?_
  refine J_seq ?_
  refine J_seq ?_
  refine J_region ?_
  refine JL_step rfl rfl rfl (step_load_ptr ty60 Sub.rfl) ?_
  refine JL_step rfl rfl rfl (step_call0 (Valid_spec _) ⟨Sub.rfl, trivial⟩ Tryz.call63) ?_
  refine JL_step rfl rfl rfl (step_not Sub.rfl) ?_
  refine JL_step rfl rfl rfl (step_move Sub.rfl) ?_
  refine JL_stepG rfl rfl rfl (Gd.plain Sub.rfl) rfl rfl (fun hw => step_load_ptr ty60 Sub.rfl) ?_
  refine JL_stepG rfl rfl rfl (Gd.plain Sub.rfl) rfl rfl (fun hw => step_call0 (Valid_spec _) ⟨(Sub.w hw), trivial⟩ Tryz.call63) ?_
  refine JL_stepG rfl rfl rfl (Gd.plain Sub.rfl) rfl rfl (fun hw => step_not (Sub.w hw)) ?_
  refine JL_step rfl rfl rfl (step_pick_or Sub.rfl Sub.rfl) ?_
  refine JL_step rfl rfl rfl (step_move Sub.rfl) ?_
  refine JL_stepG rfl rfl rfl (Gd.plain Sub.rfl) rfl rfl (fun hw => step_fieldAddr so60 Sub.rfl rfl) ?_
  refine JL_stepG rfl rfl rfl (Gd.plain Sub.rfl) rfl rfl (fun hw => step_load_ptr ty3 (Sub.w hw)) ?_
  refine JL_stepG rfl rfl rfl (Gd.plain Sub.rfl) rfl rfl (fun hw => step_fieldAddr so60 Sub.rfl rfl) ?_
  refine JL_stepG rfl rfl rfl (Gd.plain Sub.rfl) rfl rfl (fun hw => step_load_ptr ty3 (Sub.w hw)) ?_
  refine JL_stepG rfl rfl rfl (Gd.plain Sub.rfl) rfl rfl (fun hw => step_neq (Sub.w hw) (Sub.w hw)) ?_
  refine JL_step rfl rfl rfl (step_pick_or Sub.rfl Sub.rfl) ?_
  refine JL_nil ?_
  refine J_cond Sub.rfl (fun hc1 => ?_) (fun hc1 => ?_)
  · try simp only [decide_eq_true_eq, decide_eq_false_iff_not, Bool.and_eq_true, Bool.or_eq_true, Bool.and_eq_false_iff, Bool.or_eq_false_iff, Bool.not_eq_true', Bool.not_eq_false', Int.not_lt, Int.not_le, Bool.not_true, Bool.not_false] at hc1
    refine J_seq ?_
    refine J_region ?_
    refine JL_step rfl rfl rfl (step_assign Sub.rfl) ?_
    refine JL_nil ?_
    refine J_ret ?_
    refine K_ret1 (t := 8) rfl () ?_
    refine Sub.bool ?_
    have : (validV a = false ∨ validV b = false ∨ a.Kind ≠ b.Kind) := by simpa [or_assoc] using hc1
    simp only [testV, if_pos this]
  · try simp only [decide_eq_true_eq, decide_eq_false_iff_not, Bool.and_eq_true, Bool.or_eq_true, Bool.and_eq_false_iff, Bool.or_eq_false_iff, Bool.not_eq_true', Bool.not_eq_false', Int.not_lt, Int.not_le, Bool.not_true, Bool.not_false] at hc1
    have hva : validV a = true := by simp_all
    have hvb : validV b = true := by simp_all
    have hk : a.Kind = b.Kind := by simp_all
    have hpre : ¬ (validV a = false ∨ validV b = false ∨ a.Kind ≠ b.Kind) := by simp [hva, hvb, hk]
    refine J_skip ?_
    refine J_seq ?_
    refine J_region ?_
    refine JL_step rfl rfl rfl (step_assign Sub.rfl) ?_
    refine JL_nil ?_
    refine J_seq ?_
    refine J_seq ?_
    refine J_region ?_
    refine JL_step rfl rfl rfl (step_fieldAddr so60 Sub.rfl rfl) ?_
    refine JL_step rfl rfl rfl (step_load_ptr ty3 Sub.rfl) ?_
    refine JL_nil ?_
    refine J_block ?_
    refine J_seq ?_
    refine J_seq ?_
    refine J_region ?_
    refine JL_step rfl rfl rfl (step_eql Sub.rfl Sub.rfl) ?_
    refine JL_step rfl rfl rfl (step_assign Sub.rfl) ?_
    refine JL_nil ?_
    refine J_cond Sub.rfl (fun hc2 => ?_) (fun hc2 => ?_)
    · try simp only [decide_eq_true_eq, decide_eq_false_iff_not, Bool.and_eq_true, Bool.or_eq_true, Bool.and_eq_false_iff, Bool.or_eq_false_iff, Bool.not_eq_true', Bool.not_eq_false', Int.not_lt, Int.not_le, Bool.not_true, Bool.not_false] at hc2
      refine J_skip ?_
      refine J_cond Sub.rfl (fun hc3 => ?_) (fun hc3 => ?_)
      · try simp only [decide_eq_true_eq, decide_eq_false_iff_not, Bool.and_eq_true, Bool.or_eq_true, Bool.and_eq_false_iff, Bool.or_eq_false_iff, Bool.not_eq_true', Bool.not_eq_false', Int.not_lt, Int.not_le, Bool.not_true, Bool.not_false] at hc3
        refine J_region ?_
        refine JL_step rfl rfl rfl (step_fieldAddr so60 Sub.rfl rfl) ?_
        refine JL_step rfl rfl rfl (step_load_ptr ty3 Sub.rfl) ?_
        refine JL_step rfl rfl rfl (step_fieldAddr so60 Sub.rfl rfl) ?_
        refine JL_step rfl rfl rfl (step_load_ptr ty3 Sub.rfl) ?_
        refine JL_step rfl rfl rfl (step_sub Sub.rfl Sub.rfl (in64_sub hva hvb)) ?_
        refine JL_step rfl rfl rfl (step_move Sub.rfl) ?_
        refine JL_step rfl rfl rfl (step_call0 (order_int_spec _ _) ⟨Sub.rfl, Sub.rfl, trivial⟩ Tryz.call64) ?_
        refine JL_step rfl rfl rfl (step_assign Sub.rfl) ?_
        refine JL_nil ?_
        refine J_seq ?_
        refine J_seq ?_
        refine J_region ?_
        refine JL_step rfl rfl rfl (step_call0 (comparisons_spec ) trivial Tryz.call66) ?_
        refine JL_step rfl rfl rfl (step_len_sl Tryz.underlying95 Sub.rfl) ?_
        refine JL_step rfl rfl rfl (step_move Sub.rfl) ?_
        refine JL_nil ?_
        refine J_block ?_
        refine J_loopL (σ := Nat) (fun i => i ≤ 4 ∧ ∀ k, k < i → (nth comps k).op ≠ op) (fun i => upd (upd (upd (upd (upd env0 1 (tV (.int .i64 op))) 9 (tV (.int .i64 (ordI (a.N - b.N) add)))) 47 (tSl rcomparison comps)) 48 (tV (.int .i64 4))) 49 (tV (.int .i64 i))) (fun i => []) (fun i => 4 - i) 0 ⟨by omega, fun k hk => by omega⟩ (SubE.upd Sub.rfl (SubE.upd Sub.rfl (SubE.upd Sub.rfl (SubE.upd Sub.rfl (SubE.upd Sub.rfl SubE.any))))) (LSub.rfl) ?_
        rintro i ⟨hi, hv⟩
        refine J_seq ?_
        refine J_region ?_
        refine JL_step rfl rfl rfl (step_lss Sub.rfl Sub.rfl) ?_
        refine JL_nil ?_
        refine J_seq ?_
        refine J_cond Sub.rfl (fun hc4 => ?_) (fun hc4 => ?_)
        · try simp only [decide_eq_true_eq, decide_eq_false_iff_not, Bool.and_eq_true, Bool.or_eq_true, Bool.and_eq_false_iff, Bool.or_eq_false_iff, Bool.not_eq_true', Bool.not_eq_false', Int.not_lt, Int.not_le, Bool.not_true, Bool.not_false] at hc4
          have hlt : i < 4 := by omega
          refine J_skip ?_
          refine J_seq ?_
          refine J_block ?_
          refine J_seq ?_
          refine J_region ?_
          refine JL_step rfl rfl rfl (step_indexAddr_sl  Tryz.underlying95 ty98 Sub.rfl Sub.rfl rfl (gb ?sg1)) ?_
          case sg1 => exact hlt
          refine JL_step rfl rfl rfl (step_load_ptr ty98 Sub.rfl) ?_
          refine JL_stepX rfl rfl rfl (step_alloc (fun w => Tryz.zeroValue98 w) zr98) fun v11 => ?_
          refine JL_stepU rfl rfl (step_store_box ty98 Sub.rfl Sub.rfl (by first | exact Sel.take (Sel.none _) | exact Sel.skip (Sel.take (Sel.none _)) | exact Sel.skip (Sel.skip (Sel.take (Sel.none _))) | exact Sel.skip (Sel.skip (Sel.skip (Sel.take (Sel.none _)))) | exact Sel.skip (Sel.skip (Sel.skip (Sel.skip (Sel.take (Sel.none _))))))) fun _ => ?_
          refine JL_freeze (t := 11) (Sel.take (Sel.none _)) Frz.box ?_
          refine JL_nil ?_
          refine J_seq ?_
          refine J_region ?_
          refine JL_step rfl rfl rfl (step_fieldAddr so98 Sub.rfl rfl) ?_
          refine JL_step rfl rfl rfl (step_load_ptr ty3 Sub.rfl) ?_
          refine JL_step rfl rfl rfl (step_move Sub.rfl) ?_
          refine JL_step rfl rfl rfl (step_eql Sub.rfl Sub.rfl) ?_
          refine JL_nil ?_
          refine J_cond Sub.rfl (fun hc5 => ?_) (fun hc5 => ?_)
          · try simp only [decide_eq_true_eq, decide_eq_false_iff_not, Bool.and_eq_true, Bool.or_eq_true, Bool.and_eq_false_iff, Bool.or_eq_false_iff, Bool.not_eq_true', Bool.not_eq_false', Int.not_lt, Int.not_le, Bool.not_true, Bool.not_false] at hc5
            refine J_seq ?_
            refine J_region ?_
            refine JL_step rfl rfl rfl (step_fieldAddr so98 Sub.rfl rfl) ?_
            refine JL_step rfl rfl rfl (step_load_ptr ty77 Sub.rfl) ?_
            refine JL_step rfl rfl rfl (step_move Sub.rfl) ?_
            refine JL_step rfl rfl rfl (step_comp hlt Sub.rfl Sub.rfl) ?_
            refine JL_step rfl rfl rfl (step_assign Sub.rfl) ?_
            refine JL_nil ?_
            refine J_ret ?_
            refine K_ret1 (t := 8) rfl () ?_
            refine Sub.bool ?_
            rw [testV, if_neg hpre]
            simp_all
          · try simp only [decide_eq_true_eq, decide_eq_false_iff_not, Bool.and_eq_true, Bool.or_eq_true, Bool.and_eq_false_iff, Bool.or_eq_false_iff, Bool.not_eq_true', Bool.not_eq_false', Int.not_lt, Int.not_le, Bool.not_true, Bool.not_false] at hc5
            refine J_skip ?_
            refine J_region ?_
            refine JL_step rfl rfl rfl (step_add Sub.rfl Sub.rfl ?sg1) ?_
            case sg1 => unfold in64; omega
            refine JL_step rfl rfl rfl (step_move Sub.rfl) ?_
            refine JL_nil ?_
            refine K_againL (σ := Nat) (s := i) (i + 1) (by first | omega | (dsimp only; omega) | (simp_all; omega)) ?_ (SubE.upd Sub.rfl (SubE.upd Sub.rfl (SubE.upd Sub.rfl (SubE.upd Sub.rfl (SubE.upd Sub.rfl SubE.any))))) (LSub.rfl)
            refine ⟨by omega, fun k hk => ?_⟩
            by_cases e : k = i
            · subst e; simp_all
            · exact hv k (by omega)
        · try simp only [decide_eq_true_eq, decide_eq_false_iff_not, Bool.and_eq_true, Bool.or_eq_true, Bool.and_eq_false_iff, Bool.or_eq_false_iff, Bool.not_eq_true', Bool.not_eq_false', Int.not_lt, Int.not_le, Bool.not_true, Bool.not_false] at hc4
          have hno := fun c => opHolds_none (op := op) (c := c) (fun k hk => hv k (by omega))
          refine J_exit ?_
          refine J_seq ?_
          refine J_region ?_
          refine JL_step rfl rfl rfl (step_assign Sub.rfl) ?_
          refine JL_nil ?_
          refine J_ret ?_
          refine K_ret1 (t := 8) rfl () ?_
          refine Sub.bool ?_
          rw [testV, if_neg hpre]
          simp_all
      · try simp only [decide_eq_true_eq, decide_eq_false_iff_not, Bool.and_eq_true, Bool.or_eq_true, Bool.and_eq_false_iff, Bool.or_eq_false_iff, Bool.not_eq_true', Bool.not_eq_false', Int.not_lt, Int.not_le, Bool.not_true, Bool.not_false] at hc3
        first | contradiction | omega | (simp_all; done)
    · try simp only [decide_eq_true_eq, decide_eq_false_iff_not, Bool.and_eq_true, Bool.or_eq_true, Bool.and_eq_false_iff, Bool.or_eq_false_iff, Bool.not_eq_true', Bool.not_eq_false', Int.not_lt, Int.not_le, Bool.not_true, Bool.not_false] at hc2
      refine J_region ?_
      refine JL_step rfl rfl rfl (step_eql Sub.rfl Sub.rfl) ?_
      refine JL_step rfl rfl rfl (step_assign Sub.rfl) ?_
      refine JL_nil ?_
      refine J_cond Sub.rfl (fun hc6 => ?_) (fun hc6 => ?_)
      · try simp only [decide_eq_true_eq, decide_eq_false_iff_not, Bool.and_eq_true, Bool.or_eq_true, Bool.and_eq_false_iff, Bool.or_eq_false_iff, Bool.not_eq_true', Bool.not_eq_false', Int.not_lt, Int.not_le, Bool.not_true, Bool.not_false] at hc6
        refine J_region ?_
        refine JL_step rfl rfl rfl (step_fieldAddr so60 Sub.rfl rfl) ?_
        refine JL_step rfl rfl rfl (step_load_ptr ty3 Sub.rfl) ?_
        refine JL_step rfl rfl rfl (step_fieldAddr so60 Sub.rfl rfl) ?_
        refine JL_step rfl rfl rfl (step_load_ptr ty3 Sub.rfl) ?_
        refine JL_step rfl rfl rfl (step_sub Sub.rfl Sub.rfl (in64_sub hva hvb)) ?_
        refine JL_step rfl rfl rfl (step_move Sub.rfl) ?_
        refine JL_step rfl rfl rfl (step_call0 (order_int_spec _ _) ⟨Sub.rfl, Sub.rfl, trivial⟩ Tryz.call64) ?_
        refine JL_step rfl rfl rfl (step_assign Sub.rfl) ?_
        refine JL_nil ?_
        refine J_seq ?_
        refine J_seq ?_
        refine J_region ?_
        refine JL_step rfl rfl rfl (step_call0 (comparisons_spec ) trivial Tryz.call66) ?_
        refine JL_step rfl rfl rfl (step_len_sl Tryz.underlying95 Sub.rfl) ?_
        refine JL_step rfl rfl rfl (step_move Sub.rfl) ?_
        refine JL_nil ?_
        refine J_block ?_
        refine J_loopL (σ := Nat) (fun i => i ≤ 4 ∧ ∀ k, k < i → (nth comps k).op ≠ op) (fun i => upd (upd (upd (upd (upd env0 1 (tV (.int .i64 op))) 9 (tV (.int .i64 (ordI (a.N - b.N) add)))) 47 (tSl rcomparison comps)) 48 (tV (.int .i64 4))) 49 (tV (.int .i64 i))) (fun i => []) (fun i => 4 - i) 0 ⟨by omega, fun k hk => by omega⟩ (SubE.upd Sub.rfl (SubE.upd Sub.rfl (SubE.upd Sub.rfl (SubE.upd Sub.rfl (SubE.upd Sub.rfl SubE.any))))) (LSub.rfl) ?_
        rintro i ⟨hi, hv⟩
        refine J_seq ?_
        refine J_region ?_
        refine JL_step rfl rfl rfl (step_lss Sub.rfl Sub.rfl) ?_
        refine JL_nil ?_
        refine J_seq ?_
        refine J_cond Sub.rfl (fun hc7 => ?_) (fun hc7 => ?_)
        · try simp only [decide_eq_true_eq, decide_eq_false_iff_not, Bool.and_eq_true, Bool.or_eq_true, Bool.and_eq_false_iff, Bool.or_eq_false_iff, Bool.not_eq_true', Bool.not_eq_false', Int.not_lt, Int.not_le, Bool.not_true, Bool.not_false] at hc7
          have hlt : i < 4 := by omega
          refine J_skip ?_
          refine J_seq ?_
          refine J_block ?_
          refine J_seq ?_
          refine J_region ?_
          refine JL_step rfl rfl rfl (step_indexAddr_sl  Tryz.underlying95 ty98 Sub.rfl Sub.rfl rfl (gb ?sg1)) ?_
          case sg1 => exact hlt
          refine JL_step rfl rfl rfl (step_load_ptr ty98 Sub.rfl) ?_
          refine JL_stepX rfl rfl rfl (step_alloc (fun w => Tryz.zeroValue98 w) zr98) fun v11 => ?_
          refine JL_stepU rfl rfl (step_store_box ty98 Sub.rfl Sub.rfl (by first | exact Sel.take (Sel.none _) | exact Sel.skip (Sel.take (Sel.none _)) | exact Sel.skip (Sel.skip (Sel.take (Sel.none _))) | exact Sel.skip (Sel.skip (Sel.skip (Sel.take (Sel.none _)))) | exact Sel.skip (Sel.skip (Sel.skip (Sel.skip (Sel.take (Sel.none _))))))) fun _ => ?_
          refine JL_freeze (t := 11) (Sel.take (Sel.none _)) Frz.box ?_
          refine JL_nil ?_
          refine J_seq ?_
          refine J_region ?_
          refine JL_step rfl rfl rfl (step_fieldAddr so98 Sub.rfl rfl) ?_
          refine JL_step rfl rfl rfl (step_load_ptr ty3 Sub.rfl) ?_
          refine JL_step rfl rfl rfl (step_move Sub.rfl) ?_
          refine JL_step rfl rfl rfl (step_eql Sub.rfl Sub.rfl) ?_
          refine JL_nil ?_
          refine J_cond Sub.rfl (fun hc8 => ?_) (fun hc8 => ?_)
          · try simp only [decide_eq_true_eq, decide_eq_false_iff_not, Bool.and_eq_true, Bool.or_eq_true, Bool.and_eq_false_iff, Bool.or_eq_false_iff, Bool.not_eq_true', Bool.not_eq_false', Int.not_lt, Int.not_le, Bool.not_true, Bool.not_false] at hc8
            refine J_seq ?_
            refine J_region ?_
            refine JL_step rfl rfl rfl (step_fieldAddr so98 Sub.rfl rfl) ?_
            refine JL_step rfl rfl rfl (step_load_ptr ty77 Sub.rfl) ?_
            refine JL_step rfl rfl rfl (step_move Sub.rfl) ?_
            refine JL_step rfl rfl rfl (step_comp hlt Sub.rfl Sub.rfl) ?_
            refine JL_step rfl rfl rfl (step_assign Sub.rfl) ?_
            refine JL_nil ?_
            refine J_ret ?_
            refine K_ret1 (t := 8) rfl () ?_
            refine Sub.bool ?_
            rw [testV, if_neg hpre]
            simp_all
          · try simp only [decide_eq_true_eq, decide_eq_false_iff_not, Bool.and_eq_true, Bool.or_eq_true, Bool.and_eq_false_iff, Bool.or_eq_false_iff, Bool.not_eq_true', Bool.not_eq_false', Int.not_lt, Int.not_le, Bool.not_true, Bool.not_false] at hc8
            refine J_skip ?_
            refine J_region ?_
            refine JL_step rfl rfl rfl (step_add Sub.rfl Sub.rfl ?sg1) ?_
            case sg1 => unfold in64; omega
            refine JL_step rfl rfl rfl (step_move Sub.rfl) ?_
            refine JL_nil ?_
            refine K_againL (σ := Nat) (s := i) (i + 1) (by first | omega | (dsimp only; omega) | (simp_all; omega)) ?_ (SubE.upd Sub.rfl (SubE.upd Sub.rfl (SubE.upd Sub.rfl (SubE.upd Sub.rfl (SubE.upd Sub.rfl SubE.any))))) (LSub.rfl)
            refine ⟨by omega, fun k hk => ?_⟩
            by_cases e : k = i
            · subst e; simp_all
            · exact hv k (by omega)
        · try simp only [decide_eq_true_eq, decide_eq_false_iff_not, Bool.and_eq_true, Bool.or_eq_true, Bool.and_eq_false_iff, Bool.or_eq_false_iff, Bool.not_eq_true', Bool.not_eq_false', Int.not_lt, Int.not_le, Bool.not_true, Bool.not_false] at hc7
          have hno := fun c => opHolds_none (op := op) (c := c) (fun k hk => hv k (by omega))
          refine J_exit ?_
          refine J_seq ?_
          refine J_region ?_
          refine JL_step rfl rfl rfl (step_assign Sub.rfl) ?_
          refine JL_nil ?_
          refine J_ret ?_
          refine K_ret1 (t := 8) rfl () ?_
          refine Sub.bool ?_
          rw [testV, if_neg hpre]
          simp_all
      · try simp only [decide_eq_true_eq, decide_eq_false_iff_not, Bool.and_eq_true, Bool.or_eq_true, Bool.and_eq_false_iff, Bool.or_eq_false_iff, Bool.not_eq_true', Bool.not_eq_false', Int.not_lt, Int.not_le, Bool.not_true, Bool.not_false] at hc6
        refine J_seq ?_
        refine J_seq ?_
        refine J_region ?_
        refine JL_step rfl rfl rfl (step_eql Sub.rfl Sub.rfl) ?_
        refine JL_step rfl rfl rfl (step_assign Sub.rfl) ?_
        refine JL_nil ?_
        refine J_cond Sub.rfl (fun hc9 => ?_) (fun hc9 => ?_)
        · try simp only [decide_eq_true_eq, decide_eq_false_iff_not, Bool.and_eq_true, Bool.or_eq_true, Bool.and_eq_false_iff, Bool.or_eq_false_iff, Bool.not_eq_true', Bool.not_eq_false', Int.not_lt, Int.not_le, Bool.not_true, Bool.not_false] at hc9
          refine J_skip ?_
          refine J_cond Sub.rfl (fun hc10 => ?_) (fun hc10 => ?_)
          · try simp only [decide_eq_true_eq, decide_eq_false_iff_not, Bool.and_eq_true, Bool.or_eq_true, Bool.and_eq_false_iff, Bool.or_eq_false_iff, Bool.not_eq_true', Bool.not_eq_false', Int.not_lt, Int.not_le, Bool.not_true, Bool.not_false] at hc10
            refine J_seq ?_
            refine J_seq ?_
            refine J_region ?_
            refine JL_step rfl rfl rfl (step_move Sub.rfl) ?_
            refine JL_step rfl rfl rfl (step_neq Sub.rfl Sub.rfl) ?_
            refine JL_nil ?_
            refine J_cond Sub.rfl (fun hc11 => ?_) (fun hc11 => ?_)
            · try simp only [decide_eq_true_eq, decide_eq_false_iff_not, Bool.and_eq_true, Bool.or_eq_true, Bool.and_eq_false_iff, Bool.or_eq_false_iff, Bool.not_eq_true', Bool.not_eq_false', Int.not_lt, Int.not_le, Bool.not_true, Bool.not_false] at hc11
              refine J_seq ?_
              refine J_region ?_
              refine JL_step rfl rfl rfl (step_assign Sub.rfl) ?_
              refine JL_nil ?_
              refine J_ret ?_
              refine K_ret1 (t := 8) rfl () ?_
              refine Sub.bool ?_
              rw [testV, if_neg hpre]
              simp_all
            · try simp only [decide_eq_true_eq, decide_eq_false_iff_not, Bool.and_eq_true, Bool.or_eq_true, Bool.and_eq_false_iff, Bool.or_eq_false_iff, Bool.not_eq_true', Bool.not_eq_false', Int.not_lt, Int.not_le, Bool.not_true, Bool.not_false] at hc11
              refine J_skip ?_
              refine J_region ?_
              refine JL_step rfl rfl rfl (step_load_ptr ty60 Sub.rfl) ?_
              refine JL_step rfl rfl rfl (step_load_ptr ty60 Sub.rfl) ?_
              refine JL_step rfl rfl rfl (step_call0 (Compare_spec _ _) ⟨Sub.rfl, Sub.rfl, trivial⟩ Tryz.call65) ?_
              refine JL_step rfl rfl rfl (step_assign Sub.rfl) ?_
              refine JL_nil ?_
              refine J_seq ?_
              refine J_seq ?_
              refine J_region ?_
              refine JL_step rfl rfl rfl (step_call0 (comparisons_spec ) trivial Tryz.call66) ?_
              refine JL_step rfl rfl rfl (step_len_sl Tryz.underlying95 Sub.rfl) ?_
              refine JL_step rfl rfl rfl (step_move Sub.rfl) ?_
              refine JL_nil ?_
              refine J_block ?_
              refine J_loopL (σ := Nat) (fun i => i ≤ 4 ∧ ∀ k, k < i → (nth comps k).op ≠ op) (fun i => upd (upd (upd (upd (upd env0 1 (tV (.int .i64 op))) 9 (tV (.int .i64 (cmpV a b)))) 47 (tSl rcomparison comps)) 48 (tV (.int .i64 4))) 49 (tV (.int .i64 i))) (fun i => []) (fun i => 4 - i) 0 ⟨by omega, fun k hk => by omega⟩ (SubE.upd Sub.rfl (SubE.upd Sub.rfl (SubE.upd Sub.rfl (SubE.upd Sub.rfl (SubE.upd Sub.rfl SubE.any))))) (LSub.rfl) ?_
              rintro i ⟨hi, hv⟩
              refine J_seq ?_
              refine J_region ?_
              refine JL_step rfl rfl rfl (step_lss Sub.rfl Sub.rfl) ?_
              refine JL_nil ?_
              refine J_seq ?_
              refine J_cond Sub.rfl (fun hc12 => ?_) (fun hc12 => ?_)
              · try simp only [decide_eq_true_eq, decide_eq_false_iff_not, Bool.and_eq_true, Bool.or_eq_true, Bool.and_eq_false_iff, Bool.or_eq_false_iff, Bool.not_eq_true', Bool.not_eq_false', Int.not_lt, Int.not_le, Bool.not_true, Bool.not_false] at hc12
                have hlt : i < 4 := by omega
                refine J_skip ?_
                refine J_seq ?_
                refine J_block ?_
                refine J_seq ?_
                refine J_region ?_
                refine JL_step rfl rfl rfl (step_indexAddr_sl  Tryz.underlying95 ty98 Sub.rfl Sub.rfl rfl (gb ?sg1)) ?_
                case sg1 => exact hlt
                refine JL_step rfl rfl rfl (step_load_ptr ty98 Sub.rfl) ?_
                refine JL_stepX rfl rfl rfl (step_alloc (fun w => Tryz.zeroValue98 w) zr98) fun v11 => ?_
                refine JL_stepU rfl rfl (step_store_box ty98 Sub.rfl Sub.rfl (by first | exact Sel.take (Sel.none _) | exact Sel.skip (Sel.take (Sel.none _)) | exact Sel.skip (Sel.skip (Sel.take (Sel.none _))) | exact Sel.skip (Sel.skip (Sel.skip (Sel.take (Sel.none _)))) | exact Sel.skip (Sel.skip (Sel.skip (Sel.skip (Sel.take (Sel.none _))))))) fun _ => ?_
                refine JL_freeze (t := 11) (Sel.take (Sel.none _)) Frz.box ?_
                refine JL_nil ?_
                refine J_seq ?_
                refine J_region ?_
                refine JL_step rfl rfl rfl (step_fieldAddr so98 Sub.rfl rfl) ?_
                refine JL_step rfl rfl rfl (step_load_ptr ty3 Sub.rfl) ?_
                refine JL_step rfl rfl rfl (step_move Sub.rfl) ?_
                refine JL_step rfl rfl rfl (step_eql Sub.rfl Sub.rfl) ?_
                refine JL_nil ?_
                refine J_cond Sub.rfl (fun hc13 => ?_) (fun hc13 => ?_)
                · try simp only [decide_eq_true_eq, decide_eq_false_iff_not, Bool.and_eq_true, Bool.or_eq_true, Bool.and_eq_false_iff, Bool.or_eq_false_iff, Bool.not_eq_true', Bool.not_eq_false', Int.not_lt, Int.not_le, Bool.not_true, Bool.not_false] at hc13
                  refine J_seq ?_
                  refine J_region ?_
                  refine JL_step rfl rfl rfl (step_fieldAddr so98 Sub.rfl rfl) ?_
                  refine JL_step rfl rfl rfl (step_load_ptr ty77 Sub.rfl) ?_
                  refine JL_step rfl rfl rfl (step_move Sub.rfl) ?_
                  refine JL_step rfl rfl rfl (step_comp hlt Sub.rfl Sub.rfl) ?_
                  refine JL_step rfl rfl rfl (step_assign Sub.rfl) ?_
                  refine JL_nil ?_
                  refine J_ret ?_
                  refine K_ret1 (t := 8) rfl () ?_
                  refine Sub.bool ?_
                  rw [testV, if_neg hpre]
                  simp_all
                · try simp only [decide_eq_true_eq, decide_eq_false_iff_not, Bool.and_eq_true, Bool.or_eq_true, Bool.and_eq_false_iff, Bool.or_eq_false_iff, Bool.not_eq_true', Bool.not_eq_false', Int.not_lt, Int.not_le, Bool.not_true, Bool.not_false] at hc13
                  refine J_skip ?_
                  refine J_region ?_
                  refine JL_step rfl rfl rfl (step_add Sub.rfl Sub.rfl ?sg1) ?_
                  case sg1 => unfold in64; omega
                  refine JL_step rfl rfl rfl (step_move Sub.rfl) ?_
                  refine JL_nil ?_
                  refine K_againL (σ := Nat) (s := i) (i + 1) (by first | omega | (dsimp only; omega) | (simp_all; omega)) ?_ (SubE.upd Sub.rfl (SubE.upd Sub.rfl (SubE.upd Sub.rfl (SubE.upd Sub.rfl (SubE.upd Sub.rfl SubE.any))))) (LSub.rfl)
                  refine ⟨by omega, fun k hk => ?_⟩
                  by_cases e : k = i
                  · subst e; simp_all
                  · exact hv k (by omega)
              · try simp only [decide_eq_true_eq, decide_eq_false_iff_not, Bool.and_eq_true, Bool.or_eq_true, Bool.and_eq_false_iff, Bool.or_eq_false_iff, Bool.not_eq_true', Bool.not_eq_false', Int.not_lt, Int.not_le, Bool.not_true, Bool.not_false] at hc12
                have hno := fun c => opHolds_none (op := op) (c := c) (fun k hk => hv k (by omega))
                refine J_exit ?_
                refine J_seq ?_
                refine J_region ?_
                refine JL_step rfl rfl rfl (step_assign Sub.rfl) ?_
                refine JL_nil ?_
                refine J_ret ?_
                refine K_ret1 (t := 8) rfl () ?_
                refine Sub.bool ?_
                rw [testV, if_neg hpre]
                simp_all
          · try simp only [decide_eq_true_eq, decide_eq_false_iff_not, Bool.and_eq_true, Bool.or_eq_true, Bool.and_eq_false_iff, Bool.or_eq_false_iff, Bool.not_eq_true', Bool.not_eq_false', Int.not_lt, Int.not_le, Bool.not_true, Bool.not_false] at hc10
            first | contradiction | omega | (simp_all; done)
        · try simp only [decide_eq_true_eq, decide_eq_false_iff_not, Bool.and_eq_true, Bool.or_eq_true, Bool.and_eq_false_iff, Bool.or_eq_false_iff, Bool.not_eq_true', Bool.not_eq_false', Int.not_lt, Int.not_le, Bool.not_true, Bool.not_false] at hc9
          refine J_region ?_
          refine JL_step rfl rfl rfl (step_eql Sub.rfl Sub.rfl) ?_
          refine JL_step rfl rfl rfl (step_assign Sub.rfl) ?_
          refine JL_nil ?_
          refine J_cond Sub.rfl (fun hc14 => ?_) (fun hc14 => ?_)
          · try simp only [decide_eq_true_eq, decide_eq_false_iff_not, Bool.and_eq_true, Bool.or_eq_true, Bool.and_eq_false_iff, Bool.or_eq_false_iff, Bool.not_eq_true', Bool.not_eq_false', Int.not_lt, Int.not_le, Bool.not_true, Bool.not_false] at hc14
            refine J_seq ?_
            refine J_seq ?_
            refine J_region ?_
            refine JL_step rfl rfl rfl (step_move Sub.rfl) ?_
            refine JL_step rfl rfl rfl (step_neq Sub.rfl Sub.rfl) ?_
            refine JL_nil ?_
            refine J_cond Sub.rfl (fun hc15 => ?_) (fun hc15 => ?_)
            · try simp only [decide_eq_true_eq, decide_eq_false_iff_not, Bool.and_eq_true, Bool.or_eq_true, Bool.and_eq_false_iff, Bool.or_eq_false_iff, Bool.not_eq_true', Bool.not_eq_false', Int.not_lt, Int.not_le, Bool.not_true, Bool.not_false] at hc15
              refine J_seq ?_
              refine J_region ?_
              refine JL_step rfl rfl rfl (step_assign Sub.rfl) ?_
              refine JL_nil ?_
              refine J_ret ?_
              refine K_ret1 (t := 8) rfl () ?_
              refine Sub.bool ?_
              rw [testV, if_neg hpre]
              simp_all
            · try simp only [decide_eq_true_eq, decide_eq_false_iff_not, Bool.and_eq_true, Bool.or_eq_true, Bool.and_eq_false_iff, Bool.or_eq_false_iff, Bool.not_eq_true', Bool.not_eq_false', Int.not_lt, Int.not_le, Bool.not_true, Bool.not_false] at hc15
              refine J_skip ?_
              refine J_region ?_
              refine JL_step rfl rfl rfl (step_load_ptr ty60 Sub.rfl) ?_
              refine JL_step rfl rfl rfl (step_load_ptr ty60 Sub.rfl) ?_
              refine JL_step rfl rfl rfl (step_call0 (Compare_spec _ _) ⟨Sub.rfl, Sub.rfl, trivial⟩ Tryz.call65) ?_
              refine JL_step rfl rfl rfl (step_assign Sub.rfl) ?_
              refine JL_nil ?_
              refine J_seq ?_
              refine J_seq ?_
              refine J_region ?_
              refine JL_step rfl rfl rfl (step_call0 (comparisons_spec ) trivial Tryz.call66) ?_
              refine JL_step rfl rfl rfl (step_len_sl Tryz.underlying95 Sub.rfl) ?_
              refine JL_step rfl rfl rfl (step_move Sub.rfl) ?_
              refine JL_nil ?_
              refine J_block ?_
              refine J_loopL (σ := Nat) (fun i => i ≤ 4 ∧ ∀ k, k < i → (nth comps k).op ≠ op) (fun i => upd (upd (upd (upd (upd env0 1 (tV (.int .i64 op))) 9 (tV (.int .i64 (cmpV a b)))) 47 (tSl rcomparison comps)) 48 (tV (.int .i64 4))) 49 (tV (.int .i64 i))) (fun i => []) (fun i => 4 - i) 0 ⟨by omega, fun k hk => by omega⟩ (SubE.upd Sub.rfl (SubE.upd Sub.rfl (SubE.upd Sub.rfl (SubE.upd Sub.rfl (SubE.upd Sub.rfl SubE.any))))) (LSub.rfl) ?_
              rintro i ⟨hi, hv⟩
              refine J_seq ?_
              refine J_region ?_
              refine JL_step rfl rfl rfl (step_lss Sub.rfl Sub.rfl) ?_
              refine JL_nil ?_
              refine J_seq ?_
              refine J_cond Sub.rfl (fun hc16 => ?_) (fun hc16 => ?_)
              · try simp only [decide_eq_true_eq, decide_eq_false_iff_not, Bool.and_eq_true, Bool.or_eq_true, Bool.and_eq_false_iff, Bool.or_eq_false_iff, Bool.not_eq_true', Bool.not_eq_false', Int.not_lt, Int.not_le, Bool.not_true, Bool.not_false] at hc16
                have hlt : i < 4 := by omega
                refine J_skip ?_
                refine J_seq ?_
                refine J_block ?_
                refine J_seq ?_
                refine J_region ?_
                refine JL_step rfl rfl rfl (step_indexAddr_sl  Tryz.underlying95 ty98 Sub.rfl Sub.rfl rfl (gb ?sg1)) ?_
                case sg1 => exact hlt
                refine JL_step rfl rfl rfl (step_load_ptr ty98 Sub.rfl) ?_
                refine JL_stepX rfl rfl rfl (step_alloc (fun w => Tryz.zeroValue98 w) zr98) fun v11 => ?_
                refine JL_stepU rfl rfl (step_store_box ty98 Sub.rfl Sub.rfl (by first | exact Sel.take (Sel.none _) | exact Sel.skip (Sel.take (Sel.none _)) | exact Sel.skip (Sel.skip (Sel.take (Sel.none _))) | exact Sel.skip (Sel.skip (Sel.skip (Sel.take (Sel.none _)))) | exact Sel.skip (Sel.skip (Sel.skip (Sel.skip (Sel.take (Sel.none _))))))) fun _ => ?_
                refine JL_freeze (t := 11) (Sel.take (Sel.none _)) Frz.box ?_
                refine JL_nil ?_
                refine J_seq ?_
                refine J_region ?_
                refine JL_step rfl rfl rfl (step_fieldAddr so98 Sub.rfl rfl) ?_
                refine JL_step rfl rfl rfl (step_load_ptr ty3 Sub.rfl) ?_
                refine JL_step rfl rfl rfl (step_move Sub.rfl) ?_
                refine JL_step rfl rfl rfl (step_eql Sub.rfl Sub.rfl) ?_
                refine JL_nil ?_
                refine J_cond Sub.rfl (fun hc17 => ?_) (fun hc17 => ?_)
                · try simp only [decide_eq_true_eq, decide_eq_false_iff_not, Bool.and_eq_true, Bool.or_eq_true, Bool.and_eq_false_iff, Bool.or_eq_false_iff, Bool.not_eq_true', Bool.not_eq_false', Int.not_lt, Int.not_le, Bool.not_true, Bool.not_false] at hc17
                  refine J_seq ?_
                  refine J_region ?_
                  refine JL_step rfl rfl rfl (step_fieldAddr so98 Sub.rfl rfl) ?_
                  refine JL_step rfl rfl rfl (step_load_ptr ty77 Sub.rfl) ?_
                  refine JL_step rfl rfl rfl (step_move Sub.rfl) ?_
                  refine JL_step rfl rfl rfl (step_comp hlt Sub.rfl Sub.rfl) ?_
                  refine JL_step rfl rfl rfl (step_assign Sub.rfl) ?_
                  refine JL_nil ?_
                  refine J_ret ?_
                  refine K_ret1 (t := 8) rfl () ?_
                  refine Sub.bool ?_
                  rw [testV, if_neg hpre]
                  simp_all
                · try simp only [decide_eq_true_eq, decide_eq_false_iff_not, Bool.and_eq_true, Bool.or_eq_true, Bool.and_eq_false_iff, Bool.or_eq_false_iff, Bool.not_eq_true', Bool.not_eq_false', Int.not_lt, Int.not_le, Bool.not_true, Bool.not_false] at hc17
                  refine J_skip ?_
                  refine J_region ?_
                  refine JL_step rfl rfl rfl (step_add Sub.rfl Sub.rfl ?sg1) ?_
                  case sg1 => unfold in64; omega
                  refine JL_step rfl rfl rfl (step_move Sub.rfl) ?_
                  refine JL_nil ?_
                  refine K_againL (σ := Nat) (s := i) (i + 1) (by first | omega | (dsimp only; omega) | (simp_all; omega)) ?_ (SubE.upd Sub.rfl (SubE.upd Sub.rfl (SubE.upd Sub.rfl (SubE.upd Sub.rfl (SubE.upd Sub.rfl SubE.any))))) (LSub.rfl)
                  refine ⟨by omega, fun k hk => ?_⟩
                  by_cases e : k = i
                  · subst e; simp_all
                  · exact hv k (by omega)
              · try simp only [decide_eq_true_eq, decide_eq_false_iff_not, Bool.and_eq_true, Bool.or_eq_true, Bool.and_eq_false_iff, Bool.or_eq_false_iff, Bool.not_eq_true', Bool.not_eq_false', Int.not_lt, Int.not_le, Bool.not_true, Bool.not_false] at hc16
                have hno := fun c => opHolds_none (op := op) (c := c) (fun k hk => hv k (by omega))
                refine J_exit ?_
                refine J_seq ?_
                refine J_region ?_
                refine JL_step rfl rfl rfl (step_assign Sub.rfl) ?_
                refine JL_nil ?_
                refine J_ret ?_
                refine K_ret1 (t := 8) rfl () ?_
                refine Sub.bool ?_
                rw [testV, if_neg hpre]
                simp_all
          · try simp only [decide_eq_true_eq, decide_eq_false_iff_not, Bool.and_eq_true, Bool.or_eq_true, Bool.and_eq_false_iff, Bool.or_eq_false_iff, Bool.not_eq_true', Bool.not_eq_false', Int.not_lt, Int.not_le, Bool.not_true, Bool.not_false] at hc14
            refine J_seq ?_
            refine J_region ?_
            refine JL_step rfl rfl rfl (step_assign Sub.rfl) ?_
            refine JL_nil ?_
            refine J_ret ?_
            refine K_ret1 (t := 8) rfl () ?_
            refine Sub.bool ?_
            rw [testV, if_neg hpre]
            simp_all
end Lg

namespace Lg
open Go Go.Proofs


def bothT (c op : Int) : GTest := ⟨⟨0, c, zValue⟩, op, ⟨1, c, zValue⟩, 0⟩
def fT (f : GFixed) (k : Int) : GTest := ⟨⟨k, f.Col, zValue⟩, 1, ⟨-1, 0, f.Value⟩, 0⟩
def fixT (l : List GFixed) : List GTest := l.flatMap fun f => [fT f 0, fT f 1]
theorem fixT_len (l : List GFixed) : (fixT l).length = 2 * l.length := by
  induction l with
  | nil => rfl
  | cons a l ih => simp [fixT] at ih ⊢; omega
def preT (r : GRule) : List GTest := if r.Kind = 2 then fixT r.Fixed else []
theorem preT_len (r : GRule) : (preT r).length ≤ 2 * r.Fixed.length := by unfold preT; split <;> simp [fixT_len]
def lowT (r : GRule) : List GTest := preT r ++ r.Cols.map (bothT · 1) ++ (if r.Kind = 2 then [bothT r.Col 2] else [])
def lowerR (r : GRule) : List GRule := if r.Kind = 4 then [r] else if r.Kind = 1 ∨ r.Kind = 2 then [{ zRule with Kind := 4, Name := r.Name, Tables := [r.Table, r.Table], Tests := lowT r }] else []
def outW (r : GRule) (v : Value) : GRuleW := { zRuleW with Kind := 4, Name := r.Name, Tables := [r.Table, r.Table], Tests := v }
theorem take_fixT {l : List GFixed} {i : Nat} (h : i < l.length) : fixT (l.take (i + 1)) = fixT (l.take i) ++ [fT (nth l i) 0, fT (nth l i) 1] := by
  rw [takeB h]; simp [fixT]
theorem range_succ_map {α : Type} (f : Int → α) (j : Nat) : (List.range (j + 1)).map (fun k : Nat => f k) = (List.range j).map (fun k : Nat => f k) ++ [f j] := by rw [List.range_succ]; simp
theorem take_succ_map {α β : Type} [Inhabited α] (f : α → β) {l : List α} {i : Nat} (h : i < l.length) : (l.take (i + 1)).map f = (l.take i).map f ++ [f (nth l i)] := by rw [takeB h]; simp

theorem both_spec (c op : Int) : Fun1 Tryz.prog 34 [tV (.int .i64 c), tV (.int .i64 op)] (rTest.ty (bothT c op)) := by
  refine Spec.enter Tryz.func34 rfl rfl fun h0 w0 fr0 => ?_
  refine J_seq ?_
  refine J_region ?_
  refine JL_stepX rfl rfl rfl (step_alloc (fun w => Tryz.zeroValue66 w) zr66) fun v4 => ?_
  refine JL_nil ?_
  refine J_seq ?_
  refine J_region ?_
  refine JL_step rfl rfl rfl (step_move Sub.rfl) ?_
  refine JL_step rfl rfl rfl (step_build (x := (⟨0, c, zValue⟩ : GSide)) (zs := [[Value.int .i64 0], [Value.int .i64 0], [Value.int .i64 0, Value.int .i64 0, Value.string ⟨#[]⟩]]) so62 (fun w => Tryz.zeroValue62 w) ⟨Sub.rfl, trivial⟩ ⟨fun _ => rfl, ⟨Sub.rfl, rfl⟩, fun _ => ⟨[Value.int .i64 0], _, rfl, rfl, ⟨[Value.int .i64 0], _, rfl, rfl, ⟨[Value.string ⟨#[]⟩], _, rfl, rfl, rfl⟩⟩⟩, trivial⟩) ?_
  refine JL_step rfl rfl rfl (step_move Sub.rfl) ?_
  refine JL_step rfl rfl rfl (step_move Sub.rfl) ?_
  refine JL_step rfl rfl rfl (step_build (x := (⟨1, c, zValue⟩ : GSide)) (zs := [[Value.int .i64 0], [Value.int .i64 0], [Value.int .i64 0, Value.int .i64 0, Value.string ⟨#[]⟩]]) so62 (fun w => Tryz.zeroValue62 w) ⟨Sub.rfl, Sub.rfl, trivial⟩ ⟨⟨Sub.rfl, rfl⟩, ⟨Sub.rfl, rfl⟩, fun _ => ⟨[Value.int .i64 0], _, rfl, rfl, ⟨[Value.int .i64 0], _, rfl, rfl, ⟨[Value.string ⟨#[]⟩], _, rfl, rfl, rfl⟩⟩⟩, trivial⟩) ?_
  refine JL_step rfl rfl rfl (step_build (x := (bothT c op : GTest)) (zs := [[Value.int .i64 0, Value.int .i64 0, Value.int .i64 0, Value.int .i64 0, Value.string ⟨#[]⟩], [Value.int .i64 0], [Value.int .i64 0, Value.int .i64 0, Value.int .i64 0, Value.int .i64 0, Value.string ⟨#[]⟩], [Value.int .i64 0]]) so66 (fun w => Tryz.zeroValue66 w) ⟨Sub.rfl, Sub.rfl, Sub.rfl, trivial⟩ ⟨⟨Sub.rfl, rfl⟩, ⟨Sub.rfl, rfl⟩, ⟨Sub.rfl, rfl⟩, fun _ => rfl, trivial⟩) ?_
  refine JL_stepU rfl rfl (step_store_box ty66 Sub.rfl Sub.rfl (by first | exact Sel.take (Sel.none _) | exact Sel.skip (Sel.take (Sel.none _)) | exact Sel.skip (Sel.skip (Sel.take (Sel.none _))) | exact Sel.skip (Sel.skip (Sel.skip (Sel.take (Sel.none _)))) | exact Sel.skip (Sel.skip (Sel.skip (Sel.skip (Sel.take (Sel.none _))))))) fun _ => ?_
  refine JL_freeze (t := 4) (Sel.take (Sel.none _)) Frz.box ?_
  refine JL_nil ?_
  refine J_ret ?_
  refine K_retv (rv := .cell 4 66) rfl () (.imm ty66 Sub.rfl Sub.rfl) Sub.rfl
theorem Lower_spec (r : GRule) (h1 : r.Fixed.length ≤ 1000000) (h2 : r.Cols.length ≤ 1000000) : Fun1 Tryz.prog 13 [rRule.ty r] (tSl rRule (lowerR r)) := by
  refine Spec.enter Tryz.func13 rfl rfl fun h0 w0 fr0 => ?_
  refine J_seq ?_
  refine J_region ?_
  refine JL_step rfl rfl rfl (step_box (R := rRule) Sub.rfl) ?_
  refine JL_step rfl rfl rfl (step_assign Sub.rfl) ?_
  refine JL_nil ?_
  refine J_seq ?_
  refine J_region ?_
  refine JL_step rfl rfl rfl (step_assign Sub.rfl) ?_
  refine JL_nil ?_
  refine J_seq ?_
  refine J_region ?_
  refine JL_step rfl rfl rfl (step_fieldAddr so32 Sub.rfl rfl) ?_
  refine JL_step rfl rfl rfl (step_load_ptr ty9 Sub.rfl) ?_
  refine JL_step rfl rfl rfl (step_fieldAddr so32 Sub.rfl rfl) ?_
  refine JL_step rfl rfl rfl (step_load_ptr ty3 Sub.rfl) ?_
  refine JL_step rfl rfl rfl (step_fieldAddr so32 Sub.rfl rfl) ?_
  refine JL_step rfl rfl rfl (step_load_ptr ty3 Sub.rfl) ?_
  refine JL_step rfl rfl rfl (step_literal (ys := [_, _]) Tryz.underlying24 el3 ⟨rfl, Sub.rfl, rfl, Sub.rfl, trivial⟩ rfl (by decide)) ?_
  refine JL_step rfl rfl rfl (step_build (x := (outW r (.slice none 0 0) : GRuleW)) (zs := [[Value.int .i64 0], [Value.string ⟨#[]⟩], [Value.int .i64 0], [Value.slice none 0 0], [Value.int .i64 0], [Value.slice none 0 0], [Value.int .i64 0], [Value.int .i64 0], [Value.slice none 0 0], [Value.slice none 0 0]]) so32W (fun w => Tryz.zeroValue32 w) ⟨Sub.rfl, Sub.rfl, Sub.rfl, trivial⟩ ⟨⟨Sub.rfl, rfl⟩, ⟨Sub.rfl, rfl⟩, fun _ => rfl, fun _ => ⟨_, rfl, none, 0, rfl, fun q => absurd rfl q⟩, fun _ => rfl, fun _ => ⟨_, rfl, none, 0, rfl, fun q => absurd rfl q⟩, fun _ => rfl, fun _ => rfl, ⟨Sub.rfl, rfl⟩, fun _ => ⟨rfl, rfl⟩, trivial⟩) ?_
  refine JL_stepX rfl rfl rfl (step_alloc (fun w => Tryz.zeroValue32 w) zr32W) fun v4 => ?_
  refine JL_stepU rfl rfl (step_store_box ty32W Sub.rfl Sub.rfl (by first | exact Sel.take (Sel.none _) | exact Sel.skip (Sel.take (Sel.none _)) | exact Sel.skip (Sel.skip (Sel.take (Sel.none _))) | exact Sel.skip (Sel.skip (Sel.skip (Sel.take (Sel.none _)))) | exact Sel.skip (Sel.skip (Sel.skip (Sel.skip (Sel.take (Sel.none _))))))) fun _ => ?_
  refine JL_nil ?_
  refine K_lsub (LSub.nilown (e := 66) (R := rTest)) ?_
  refine J_seq ?_
  refine J_seq ?_
  refine J_region ?_
  refine JL_step rfl rfl rfl (step_fieldAddr so32 Sub.rfl rfl) ?_
  refine JL_step rfl rfl rfl (step_load_ptr ty3 Sub.rfl) ?_
  refine JL_nil ?_
  refine J_block ?_
  refine J_seq ?_
  refine J_region ?_
  refine JL_step rfl rfl rfl (step_eql Sub.rfl Sub.rfl) ?_
  refine JL_step rfl rfl rfl (step_assign Sub.rfl) ?_
  refine JL_nil ?_
  refine J_cond Sub.rfl (fun hc1 => ?_) (fun hc1 => ?_)
  · try simp only [decide_eq_true_eq, decide_eq_false_iff_not, Bool.and_eq_true, Bool.or_eq_true, Bool.and_eq_false_iff, Bool.or_eq_false_iff, Bool.not_eq_true', Bool.not_eq_false', Int.not_lt, Int.not_le, Bool.not_true, Bool.not_false] at hc1
    refine J_seq ?_
    refine J_region ?_
    refine JL_step rfl rfl rfl (step_load_ptr ty32 Sub.rfl) ?_
    refine JL_step rfl rfl rfl (step_literal (ys := [_]) Tryz.underlying22 el32 ⟨rfl, Sub.rfl, trivial⟩ rfl (by decide)) ?_
    refine JL_step rfl rfl rfl (step_assign Sub.rfl) ?_
    refine JL_nil ?_
    refine J_ret ?_
    refine K_drop (Sel.all _) ?_
    refine K_ret1 (t := 2) rfl () ?_
    refine Sub.sl ?_
    simp [lowerR, hc1]
  · try simp only [decide_eq_true_eq, decide_eq_false_iff_not, Bool.and_eq_true, Bool.or_eq_true, Bool.and_eq_false_iff, Bool.or_eq_false_iff, Bool.not_eq_true', Bool.not_eq_false', Int.not_lt, Int.not_le, Bool.not_true, Bool.not_false] at hc1
    refine J_seq ?_
    refine J_region ?_
    refine JL_step rfl rfl rfl (step_eql Sub.rfl Sub.rfl) ?_
    refine JL_step rfl rfl rfl (step_assign Sub.rfl) ?_
    refine JL_nil ?_
    refine J_cond Sub.rfl (fun hc2 => ?_) (fun hc2 => ?_)
    · try simp only [decide_eq_true_eq, decide_eq_false_iff_not, Bool.and_eq_true, Bool.or_eq_true, Bool.and_eq_false_iff, Bool.or_eq_false_iff, Bool.not_eq_true', Bool.not_eq_false', Int.not_lt, Int.not_le, Bool.not_true, Bool.not_false] at hc2
      refine J_skip ?_
      refine J_seq ?_
      refine J_seq ?_
      refine J_region ?_
      refine JL_step rfl rfl rfl (step_fieldAddr so32 Sub.rfl rfl) ?_
      refine JL_step rfl rfl rfl (step_load_ptr ty24 Sub.rfl) ?_
      refine JL_step rfl rfl rfl (step_len_sl Tryz.underlying24 Sub.rfl) ?_
      refine JL_step rfl rfl rfl (step_move Sub.rfl) ?_
      refine JL_nil ?_
      refine J_block ?_
      refine J_loopL (σ := Nat × Value) (fun ⟨i, v⟩ => i ≤ r.Cols.length) (fun ⟨i, v⟩ => upd (upd (upd (upd (upd (upd (upd env0 1 (tPtr rRule r)) 2 (tV (.slice none 0 0))) 3 (tV (.func (.func 34) #[] #[]))) 4 (tAt v4 0)) 54 (tSl rInt r.Cols)) 55 (tV (.int .i64 r.Cols.length))) 56 (tV (.int .i64 i))) (fun ⟨i, v⟩ => [box v4 32 rRuleW (outW r v), own 66 rTest v (preT r ++ (r.Cols.take i).map (bothT · 1))]) (fun ⟨i, v⟩ => r.Cols.length - i) (0, _) (by simp) (SubE.upd Sub.rfl (SubE.upd Sub.rfl (SubE.upd Sub.rfl (SubE.upd Sub.rfl (SubE.upd Sub.rfl (SubE.upd Sub.rfl (SubE.upd Sub.rfl SubE.any))))))) (LSub.cons (by first | exact Sel.take (Sel.none _) | exact Sel.skip (Sel.take (Sel.none _)) | exact Sel.skip (Sel.skip (Sel.take (Sel.none _))) | exact Sel.skip (Sel.skip (Sel.skip (Sel.take (Sel.none _)))) | exact Sel.skip (Sel.skip (Sel.skip (Sel.skip (Sel.take (Sel.none _)))))) SPs.rfl (LSub.cons (by first | exact Sel.take (Sel.none _) | exact Sel.skip (Sel.take (Sel.none _)) | exact Sel.skip (Sel.skip (Sel.take (Sel.none _))) | exact Sel.skip (Sel.skip (Sel.skip (Sel.take (Sel.none _)))) | exact Sel.skip (Sel.skip (Sel.skip (Sel.skip (Sel.take (Sel.none _)))))) (own_eq (by first | (obtain rfl : i = r.Fixed.length := (by omega); simp_all [preT]; done) | simp_all [preT])) LSub.nil)) ?_
      rintro ⟨i, v⟩ hi
      try dsimp only at hi
      refine J_seq ?_
      refine J_region ?_
      refine JL_step rfl rfl rfl (step_lss Sub.rfl Sub.rfl) ?_
      refine JL_nil ?_
      refine J_seq ?_
      refine J_cond Sub.rfl (fun hc3 => ?_) (fun hc3 => ?_)
      · try simp only [decide_eq_true_eq, decide_eq_false_iff_not, Bool.and_eq_true, Bool.or_eq_true, Bool.and_eq_false_iff, Bool.or_eq_false_iff, Bool.not_eq_true', Bool.not_eq_false', Int.not_lt, Int.not_le, Bool.not_true, Bool.not_false] at hc3
        have hlt : i < r.Cols.length := by omega
        refine J_skip ?_
        refine J_seq ?_
        refine J_block ?_
        refine J_seq ?_
        refine J_region ?_
        refine JL_step rfl rfl rfl (step_indexAddr_sl  Tryz.underlying24 ty3 Sub.rfl Sub.rfl rfl (gb ?sg1)) ?_
        case sg1 => first | assumption | omega
        refine JL_step rfl rfl rfl (step_load_ptr ty3 Sub.rfl) ?_
        refine JL_step rfl rfl rfl (step_assign Sub.rfl) ?_
        refine JL_nil ?_
        refine J_draw [⟨0, [4], true⟩, ⟨2, [3], true⟩, ⟨3, [9], true⟩, ⟨4, [62, 63], true⟩, ⟨5, [64], true⟩, ⟨1, [60], false⟩, ⟨6, [61, 65], false⟩, ⟨7, [4], true⟩, ⟨8, [66, 67], false⟩] rfl (by kernel_rfl) ?_
        refine JM_step rfl rfl rfl rfl (fun _ => step_fieldAddr_own so32W Sub.rfl rfl) ?_
        refine JM_step rfl rfl rfl rfl (fun _ => step_move Sub.rfl) ?_
        refine JM_step rfl rfl rfl rfl (fun _ => step_move Sub.rfl) ?_
        refine JM_step rfl rfl rfl rfl (fun _ => step_callv0 (aT := [_, _]) Sub.clo0 (both_spec _ _) ⟨Sub.rfl, Sub.rfl, trivial⟩ Tryz.call34) ?_
        refine JM_step rfl rfl rfl rfl (fun _ => step_literal (ys := [_]) Tryz.underlying30 el66 ⟨rfl, Sub.rfl, trivial⟩ rfl (by decide)) ?_
        refine JM_look rfl rfl rfl rfl (step_load_fld ty30V32 Sub.rfl rfl (by first | exact Sel.take (Sel.none _) | exact Sel.skip (Sel.take (Sel.none _)) | exact Sel.skip (Sel.skip (Sel.take (Sel.none _))) | exact Sel.skip (Sel.skip (Sel.skip (Sel.take (Sel.none _)))) | exact Sel.skip (Sel.skip (Sel.skip (Sel.skip (Sel.take (Sel.none _))))))) ?_
        refine JM_stepX rfl rfl rfl rfl (step_append Tryz.underlying30 el66 Sub.rfl Sub.rfl (by first | exact Sel.take (Sel.none _) | exact Sel.skip (Sel.take (Sel.none _)) | exact Sel.skip (Sel.skip (Sel.take (Sel.none _))) | exact Sel.skip (Sel.skip (Sel.skip (Sel.take (Sel.none _)))) | exact Sel.skip (Sel.skip (Sel.skip (Sel.skip (Sel.take (Sel.none _)))))) (by have := preT_len r; simp [fixT_len]; omega) (by have := preT_len r; simp [fixT_len]; omega)) fun v66 => ?_
        refine JM_step rfl rfl rfl rfl (fun _ => step_fieldAddr_own so32W Sub.rfl rfl) ?_
        refine JM_stepU rfl rfl rfl (step_store_fld (R := rV) (y' := outW r v66) ty30V32 Sub.rfl Sub.rfl (by first | exact Sel.take (Sel.none _) | exact Sel.skip (Sel.take (Sel.none _)) | exact Sel.skip (Sel.skip (Sel.take (Sel.none _))) | exact Sel.skip (Sel.skip (Sel.skip (Sel.take (Sel.none _)))) | exact Sel.skip (Sel.skip (Sel.skip (Sel.skip (Sel.take (Sel.none _)))))) ?sg1) fun _ => ?_
        case sg1 => exact ⟨rfl, rfl, rfl, rfl, rfl, rfl, rfl, rfl, rfl, fun _ _ q => q, rfl, fun _ h => (by cases h)⟩
        refine JM_nil ?_
        refine J_region ?_
        refine JL_step rfl rfl rfl (step_add Sub.rfl Sub.rfl ?sg1) ?_
        case sg1 => unfold in64; omega
        refine JL_step rfl rfl rfl (step_move Sub.rfl) ?_
        refine JL_nil ?_
        refine K_againL (σ := Nat × Value) (s := (i, v)) (i + 1, v66) (by first | omega | (dsimp only; omega) | (simp_all; omega)) (by simp; omega) (SubE.upd Sub.rfl (SubE.upd Sub.rfl (SubE.upd Sub.rfl (SubE.upd Sub.rfl (SubE.upd Sub.rfl (SubE.upd Sub.rfl (SubE.upd Sub.rfl SubE.any))))))) (LSub.cons (by first | exact Sel.take (Sel.none _) | exact Sel.skip (Sel.take (Sel.none _)) | exact Sel.skip (Sel.skip (Sel.take (Sel.none _))) | exact Sel.skip (Sel.skip (Sel.skip (Sel.take (Sel.none _)))) | exact Sel.skip (Sel.skip (Sel.skip (Sel.skip (Sel.take (Sel.none _)))))) SPs.rfl (LSub.cons (by first | exact Sel.take (Sel.none _) | exact Sel.skip (Sel.take (Sel.none _)) | exact Sel.skip (Sel.skip (Sel.take (Sel.none _))) | exact Sel.skip (Sel.skip (Sel.skip (Sel.take (Sel.none _)))) | exact Sel.skip (Sel.skip (Sel.skip (Sel.skip (Sel.take (Sel.none _)))))) (own_eq (by rw [take_succ_map (bothT · 1) hlt, List.append_assoc])) LSub.nil))
      · try simp only [decide_eq_true_eq, decide_eq_false_iff_not, Bool.and_eq_true, Bool.or_eq_true, Bool.and_eq_false_iff, Bool.or_eq_false_iff, Bool.not_eq_true', Bool.not_eq_false', Int.not_lt, Int.not_le, Bool.not_true, Bool.not_false] at hc3
        refine J_exit ?_
        refine J_seq ?_
        refine J_seq ?_
        refine J_region ?_
        refine JL_step rfl rfl rfl (step_fieldAddr so32 Sub.rfl rfl) ?_
        refine JL_step rfl rfl rfl (step_load_ptr ty3 Sub.rfl) ?_
        refine JL_step rfl rfl rfl (step_eql Sub.rfl Sub.rfl) ?_
        refine JL_nil ?_
        refine J_cond Sub.rfl (fun hc4 => ?_) (fun hc4 => ?_)
        · try simp only [decide_eq_true_eq, decide_eq_false_iff_not, Bool.and_eq_true, Bool.or_eq_true, Bool.and_eq_false_iff, Bool.or_eq_false_iff, Bool.not_eq_true', Bool.not_eq_false', Int.not_lt, Int.not_le, Bool.not_true, Bool.not_false] at hc4
          refine J_draw [⟨0, [4], true⟩, ⟨2, [3], true⟩, ⟨3, [1], true⟩, ⟨4, [75], true⟩, ⟨5, [74, 76], true⟩, ⟨6, [77], true⟩, ⟨1, [72], false⟩, ⟨7, [73, 78], false⟩, ⟨8, [4], true⟩, ⟨9, [79, 80], false⟩] rfl (by kernel_rfl) ?_
          refine JM_step rfl rfl rfl rfl (fun _ => step_fieldAddr_own so32W Sub.rfl rfl) ?_
          refine JM_step rfl rfl rfl rfl (fun _ => step_move Sub.rfl) ?_
          refine JM_step rfl rfl rfl rfl (fun _ => step_fieldAddr so32 Sub.rfl rfl) ?_
          refine JM_step rfl rfl rfl rfl (fun _ => step_load_ptr ty3 Sub.rfl) ?_
          refine JM_step rfl rfl rfl rfl (fun _ => step_callv0 (aT := [_, _]) Sub.clo0 (both_spec _ _) ⟨Sub.rfl, Sub.rfl, trivial⟩ Tryz.call34) ?_
          refine JM_step rfl rfl rfl rfl (fun _ => step_literal (ys := [_]) Tryz.underlying30 el66 ⟨rfl, Sub.rfl, trivial⟩ rfl (by decide)) ?_
          refine JM_look rfl rfl rfl rfl (step_load_fld ty30V32 Sub.rfl rfl (by first | exact Sel.take (Sel.none _) | exact Sel.skip (Sel.take (Sel.none _)) | exact Sel.skip (Sel.skip (Sel.take (Sel.none _))) | exact Sel.skip (Sel.skip (Sel.skip (Sel.take (Sel.none _)))) | exact Sel.skip (Sel.skip (Sel.skip (Sel.skip (Sel.take (Sel.none _))))))) ?_
          refine JM_stepX rfl rfl rfl rfl (step_append Tryz.underlying30 el66 Sub.rfl Sub.rfl (by first | exact Sel.take (Sel.none _) | exact Sel.skip (Sel.take (Sel.none _)) | exact Sel.skip (Sel.skip (Sel.take (Sel.none _))) | exact Sel.skip (Sel.skip (Sel.skip (Sel.take (Sel.none _)))) | exact Sel.skip (Sel.skip (Sel.skip (Sel.skip (Sel.take (Sel.none _)))))) (by have := preT_len r; simp [fixT_len]; omega) (by have := preT_len r; simp [fixT_len]; omega)) fun v79 => ?_
          refine JM_step rfl rfl rfl rfl (fun _ => step_fieldAddr_own so32W Sub.rfl rfl) ?_
          refine JM_stepU rfl rfl rfl (step_store_fld (R := rV) (y' := outW r v79) ty30V32 Sub.rfl Sub.rfl (by first | exact Sel.take (Sel.none _) | exact Sel.skip (Sel.take (Sel.none _)) | exact Sel.skip (Sel.skip (Sel.take (Sel.none _))) | exact Sel.skip (Sel.skip (Sel.skip (Sel.take (Sel.none _)))) | exact Sel.skip (Sel.skip (Sel.skip (Sel.skip (Sel.take (Sel.none _)))))) ?sg1) fun _ => ?_
          case sg1 => exact ⟨rfl, rfl, rfl, rfl, rfl, rfl, rfl, rfl, rfl, fun _ _ q => q, rfl, fun _ h => (by cases h)⟩
          refine JM_nil ?_
          refine J_seq ?_
          refine J_region ?_
          refine JL_freeze (t := 4) (Sel.all _) (Frz.up (y := (outW r _).up _) fun h h2 cs l hv q => up32W _ l hv q) ?_
          refine JL_step rfl rfl rfl (step_load_ptr ty32 Sub.rfl) ?_
          refine JL_step rfl rfl rfl (step_literal (ys := [_]) Tryz.underlying22 el32 ⟨rfl, Sub.rfl, trivial⟩ rfl (by decide)) ?_
          refine JL_step rfl rfl rfl (step_assign Sub.rfl) ?_
          refine JL_nil ?_
          refine J_ret ?_
          refine K_ret1 (t := 2) rfl () ?_
          refine Sub.sl ?_
          first
            | (exfalso; omega)
            | (have e : i = r.Cols.length := by omega
               simp_all [lowerR, lowT, outW, GRuleW.up, zRule, zRuleW])
        · try simp only [decide_eq_true_eq, decide_eq_false_iff_not, Bool.and_eq_true, Bool.or_eq_true, Bool.and_eq_false_iff, Bool.or_eq_false_iff, Bool.not_eq_true', Bool.not_eq_false', Int.not_lt, Int.not_le, Bool.not_true, Bool.not_false] at hc4
          refine J_skip ?_
          refine J_seq ?_
          refine J_region ?_
          refine JL_freeze (t := 4) (Sel.all _) (Frz.up (y := (outW r _).up _) fun h h2 cs l hv q => up32W _ l hv q) ?_
          refine JL_step rfl rfl rfl (step_load_ptr ty32 Sub.rfl) ?_
          refine JL_step rfl rfl rfl (step_literal (ys := [_]) Tryz.underlying22 el32 ⟨rfl, Sub.rfl, trivial⟩ rfl (by decide)) ?_
          refine JL_step rfl rfl rfl (step_assign Sub.rfl) ?_
          refine JL_nil ?_
          refine J_ret ?_
          refine K_ret1 (t := 2) rfl () ?_
          refine Sub.sl ?_
          first
            | (exfalso; omega)
            | (have e : i = r.Cols.length := by omega
               simp_all [lowerR, lowT, outW, GRuleW.up, zRule, zRuleW])
    · try simp only [decide_eq_true_eq, decide_eq_false_iff_not, Bool.and_eq_true, Bool.or_eq_true, Bool.and_eq_false_iff, Bool.or_eq_false_iff, Bool.not_eq_true', Bool.not_eq_false', Int.not_lt, Int.not_le, Bool.not_true, Bool.not_false] at hc2
      refine J_seq ?_
      refine J_region ?_
      refine JL_step rfl rfl rfl (step_eql Sub.rfl Sub.rfl) ?_
      refine JL_step rfl rfl rfl (step_assign Sub.rfl) ?_
      refine JL_nil ?_
      refine J_cond Sub.rfl (fun hc5 => ?_) (fun hc5 => ?_)
      · try simp only [decide_eq_true_eq, decide_eq_false_iff_not, Bool.and_eq_true, Bool.or_eq_true, Bool.and_eq_false_iff, Bool.or_eq_false_iff, Bool.not_eq_true', Bool.not_eq_false', Int.not_lt, Int.not_le, Bool.not_true, Bool.not_false] at hc5
        refine J_seq ?_
        refine J_region ?_
        refine JL_step rfl rfl rfl (step_fieldAddr so32 Sub.rfl rfl) ?_
        refine JL_step rfl rfl rfl (step_load_ptr ty29 Sub.rfl) ?_
        refine JL_step rfl rfl rfl (step_len_sl Tryz.underlying29 Sub.rfl) ?_
        refine JL_step rfl rfl rfl (step_move Sub.rfl) ?_
        refine JL_nil ?_
        refine J_block ?_
        refine J_loopL (σ := Nat × Value) (fun ⟨i, v⟩ => i ≤ r.Fixed.length) (fun ⟨i, v⟩ => upd (upd (upd (upd (upd (upd (upd env0 1 (tPtr rRule r)) 2 (tV (.slice none 0 0))) 3 (tV (.func (.func 34) #[] #[]))) 4 (tAt v4 0)) 29 (tSl rFixed r.Fixed)) 30 (tV (.int .i64 r.Fixed.length))) 31 (tV (.int .i64 i))) (fun ⟨i, v⟩ => [box v4 32 rRuleW (outW r v), own 66 rTest v (fixT (r.Fixed.take i))]) (fun ⟨i, v⟩ => r.Fixed.length - i) (0, .slice none 0 0) (by simp) (SubE.upd Sub.rfl (SubE.upd Sub.rfl (SubE.upd Sub.rfl (SubE.upd Sub.rfl (SubE.upd Sub.rfl (SubE.upd Sub.rfl (SubE.upd Sub.rfl SubE.any))))))) (LSub.cons (by first | exact Sel.take (Sel.none _) | exact Sel.skip (Sel.take (Sel.none _)) | exact Sel.skip (Sel.skip (Sel.take (Sel.none _))) | exact Sel.skip (Sel.skip (Sel.skip (Sel.take (Sel.none _)))) | exact Sel.skip (Sel.skip (Sel.skip (Sel.skip (Sel.take (Sel.none _)))))) SPs.rfl (LSub.cons (by first | exact Sel.take (Sel.none _) | exact Sel.skip (Sel.take (Sel.none _)) | exact Sel.skip (Sel.skip (Sel.take (Sel.none _))) | exact Sel.skip (Sel.skip (Sel.skip (Sel.take (Sel.none _)))) | exact Sel.skip (Sel.skip (Sel.skip (Sel.skip (Sel.take (Sel.none _)))))) (own_eq (by simp [fixT])) LSub.nil)) ?_
        rintro ⟨i, v⟩ hi
        try dsimp only at hi
        refine J_seq ?_
        refine J_region ?_
        refine JL_step rfl rfl rfl (step_lss Sub.rfl Sub.rfl) ?_
        refine JL_nil ?_
        refine J_seq ?_
        refine J_cond Sub.rfl (fun hc6 => ?_) (fun hc6 => ?_)
        · try simp only [decide_eq_true_eq, decide_eq_false_iff_not, Bool.and_eq_true, Bool.or_eq_true, Bool.and_eq_false_iff, Bool.or_eq_false_iff, Bool.not_eq_true', Bool.not_eq_false', Int.not_lt, Int.not_le, Bool.not_true, Bool.not_false] at hc6
          have hlt : i < r.Fixed.length := by omega
          refine J_skip ?_
          refine J_seq ?_
          refine J_block ?_
          refine J_seq ?_
          refine J_region ?_
          refine JL_step rfl rfl rfl (step_indexAddr_sl  Tryz.underlying29 ty64 Sub.rfl Sub.rfl rfl (gb ?sg1)) ?_
          case sg1 => first | assumption | omega
          refine JL_step rfl rfl rfl (step_load_ptr ty64 Sub.rfl) ?_
          refine JL_stepX rfl rfl rfl (step_alloc (fun w => Tryz.zeroValue64 w) zr64) fun v6 => ?_
          refine JL_stepU rfl rfl (step_store_box ty64 Sub.rfl Sub.rfl (by first | exact Sel.take (Sel.none _) | exact Sel.skip (Sel.take (Sel.none _)) | exact Sel.skip (Sel.skip (Sel.take (Sel.none _))) | exact Sel.skip (Sel.skip (Sel.skip (Sel.take (Sel.none _)))) | exact Sel.skip (Sel.skip (Sel.skip (Sel.skip (Sel.take (Sel.none _))))))) fun _ => ?_
          refine JL_freeze (t := 6) (Sel.take (Sel.none _)) Frz.box ?_
          refine JL_nil ?_
          refine J_seq ?_
          refine J_region ?_
          refine JL_step rfl rfl rfl (step_move Sub.rfl) ?_
          refine JL_nil ?_
          refine J_block ?_
          refine J_loopL (σ := Nat × Value) (fun ⟨j, v⟩ => j ≤ 2) (fun ⟨j, v⟩ => upd (upd (upd (upd (upd (upd (upd (upd (upd (upd env0 1 (tPtr rRule r)) 2 (tV (.slice none 0 0))) 3 (tV (.func (.func 34) #[] #[]))) 4 (tAt v4 0)) 6 (tPtr rFixed (nth r.Fixed i))) 29 (tSl rFixed r.Fixed)) 30 (tV (.int .i64 r.Fixed.length))) 31 (tV (.int .i64 i))) 34 (rFixed.ty (nth r.Fixed i))) 35 (tV (.int .i64 j))) (fun ⟨j, v⟩ => [box v4 32 rRuleW (outW r v), own 66 rTest v (fixT (r.Fixed.take i) ++ (List.range j).map (fun k : Nat => fT (nth r.Fixed i) k))]) (fun ⟨j, v⟩ => 2 - j) (0, v) (by simp) (SubE.upd Sub.rfl (SubE.upd Sub.rfl (SubE.upd Sub.rfl (SubE.upd Sub.rfl (SubE.upd Sub.rfl (SubE.upd Sub.rfl (SubE.upd Sub.rfl (SubE.upd Sub.rfl (SubE.upd Sub.rfl (SubE.upd Sub.rfl SubE.any)))))))))) (LSub.cons (by first | exact Sel.take (Sel.none _) | exact Sel.skip (Sel.take (Sel.none _)) | exact Sel.skip (Sel.skip (Sel.take (Sel.none _))) | exact Sel.skip (Sel.skip (Sel.skip (Sel.take (Sel.none _)))) | exact Sel.skip (Sel.skip (Sel.skip (Sel.skip (Sel.take (Sel.none _)))))) SPs.rfl (LSub.cons (by first | exact Sel.take (Sel.none _) | exact Sel.skip (Sel.take (Sel.none _)) | exact Sel.skip (Sel.skip (Sel.take (Sel.none _))) | exact Sel.skip (Sel.skip (Sel.skip (Sel.take (Sel.none _)))) | exact Sel.skip (Sel.skip (Sel.skip (Sel.skip (Sel.take (Sel.none _)))))) (own_eq (by simp)) LSub.nil)) ?_
          rintro ⟨j, v⟩ hj
          try dsimp only at hj
          refine J_seq ?_
          refine J_region ?_
          refine JL_step rfl rfl rfl (step_lss Sub.rfl Sub.rfl) ?_
          refine JL_nil ?_
          refine J_seq ?_
          refine J_cond Sub.rfl (fun hc7 => ?_) (fun hc7 => ?_)
          · try simp only [decide_eq_true_eq, decide_eq_false_iff_not, Bool.and_eq_true, Bool.or_eq_true, Bool.and_eq_false_iff, Bool.or_eq_false_iff, Bool.not_eq_true', Bool.not_eq_false', Int.not_lt, Int.not_le, Bool.not_true, Bool.not_false] at hc7
            refine J_skip ?_
            refine J_seq ?_
            refine J_block ?_
            refine J_seq ?_
            refine J_region ?_
            refine JL_step rfl rfl rfl (step_move Sub.rfl) ?_
            refine JL_step rfl rfl rfl (step_assign Sub.rfl) ?_
            refine JL_nil ?_
            refine J_region ?_
            refine JL_step rfl rfl rfl (step_fieldAddr_own so32W Sub.rfl rfl) ?_
            refine JL_step rfl rfl rfl (step_load_fld ty30V32 Sub.rfl rfl (by first | exact Sel.take (Sel.none _) | exact Sel.skip (Sel.take (Sel.none _)) | exact Sel.skip (Sel.skip (Sel.take (Sel.none _))) | exact Sel.skip (Sel.skip (Sel.skip (Sel.take (Sel.none _)))) | exact Sel.skip (Sel.skip (Sel.skip (Sel.skip (Sel.take (Sel.none _))))))) ?_
            refine JL_step rfl rfl rfl (step_move Sub.rfl) ?_
            refine JL_step rfl rfl rfl (step_fieldAddr so64 Sub.rfl rfl) ?_
            refine JL_step rfl rfl rfl (step_load_ptr ty3 Sub.rfl) ?_
            refine JL_step rfl rfl rfl (step_build (x := (⟨(j : Int), (nth r.Fixed i).Col, zValue⟩ : GSide)) (zs := [[Value.int .i64 0], [Value.int .i64 0], [Value.int .i64 0, Value.int .i64 0, Value.string ⟨#[]⟩]]) so62 (fun w => Tryz.zeroValue62 w) ⟨Sub.rfl, Sub.rfl, trivial⟩ ⟨⟨Sub.rfl, rfl⟩, ⟨Sub.rfl, rfl⟩, fun _ => ⟨[Value.int .i64 0], _, rfl, rfl, ⟨[Value.int .i64 0], _, rfl, rfl, ⟨[Value.string ⟨#[]⟩], _, rfl, rfl, rfl⟩⟩⟩, trivial⟩) ?_
            refine JL_step rfl rfl rfl (step_fieldAddr so64 Sub.rfl rfl) ?_
            refine JL_step rfl rfl rfl (step_load_ptr ty60 Sub.rfl) ?_
            refine JL_step rfl rfl rfl (step_build (x := (⟨-1, 0, (nth r.Fixed i).Value⟩ : GSide)) (zs := [[Value.int .i64 0], [Value.int .i64 0], [Value.int .i64 0, Value.int .i64 0, Value.string ⟨#[]⟩]]) so62 (fun w => Tryz.zeroValue62 w) ⟨Sub.rfl, Sub.rfl, trivial⟩ ⟨⟨Sub.rfl, rfl⟩, fun _ => rfl, ⟨Sub.rfl, rfl⟩, trivial⟩) ?_
            refine JL_step rfl rfl rfl (step_build (x := (fT (nth r.Fixed i) j : GTest)) (zs := [[Value.int .i64 0, Value.int .i64 0, Value.int .i64 0, Value.int .i64 0, Value.string ⟨#[]⟩], [Value.int .i64 0], [Value.int .i64 0, Value.int .i64 0, Value.int .i64 0, Value.int .i64 0, Value.string ⟨#[]⟩], [Value.int .i64 0]]) so66 (fun w => Tryz.zeroValue66 w) ⟨Sub.rfl, Sub.rfl, Sub.rfl, trivial⟩ ⟨⟨Sub.rfl, rfl⟩, ⟨Sub.rfl, rfl⟩, ⟨Sub.rfl, rfl⟩, fun _ => rfl, trivial⟩) ?_
            refine JL_step rfl rfl rfl (step_literal (ys := [_]) Tryz.underlying30 el66 ⟨rfl, Sub.rfl, trivial⟩ rfl (by decide)) ?_
            refine JL_stepX rfl rfl rfl (step_append Tryz.underlying30 el66 Sub.rfl Sub.rfl (by first | exact Sel.take (Sel.none _) | exact Sel.skip (Sel.take (Sel.none _)) | exact Sel.skip (Sel.skip (Sel.take (Sel.none _))) | exact Sel.skip (Sel.skip (Sel.skip (Sel.take (Sel.none _)))) | exact Sel.skip (Sel.skip (Sel.skip (Sel.skip (Sel.take (Sel.none _)))))) (by simp [fixT_len]; omega) (by simp [fixT_len]; omega)) fun v49 => ?_
            refine JL_step rfl rfl rfl (step_fieldAddr_own so32W Sub.rfl rfl) ?_
            refine JL_stepU rfl rfl (step_store_fld (R := rV) (y' := outW r v49) ty30V32 Sub.rfl Sub.rfl (by first | exact Sel.take (Sel.none _) | exact Sel.skip (Sel.take (Sel.none _)) | exact Sel.skip (Sel.skip (Sel.take (Sel.none _))) | exact Sel.skip (Sel.skip (Sel.skip (Sel.take (Sel.none _)))) | exact Sel.skip (Sel.skip (Sel.skip (Sel.skip (Sel.take (Sel.none _)))))) ?sg1) fun _ => ?_
            case sg1 => exact ⟨rfl, rfl, rfl, rfl, rfl, rfl, rfl, rfl, rfl, fun _ _ q => q, rfl, fun _ h => (by cases h)⟩
            refine JL_nil ?_
            refine J_region ?_
            refine JL_step rfl rfl rfl (step_add Sub.rfl Sub.rfl ?sg1) ?_
            case sg1 => unfold in64; omega
            refine JL_step rfl rfl rfl (step_move Sub.rfl) ?_
            refine JL_nil ?_
            refine K_againL (σ := Nat × Value) (s := (j, v)) (j + 1, v49) (by first | omega | (dsimp only; omega) | (simp_all; omega)) (by simp; omega) (SubE.upd Sub.rfl (SubE.upd Sub.rfl (SubE.upd Sub.rfl (SubE.upd Sub.rfl (SubE.upd Sub.rfl (SubE.upd Sub.rfl (SubE.upd Sub.rfl (SubE.upd Sub.rfl (SubE.upd Sub.rfl (SubE.upd Sub.rfl SubE.any)))))))))) (LSub.cons (by first | exact Sel.take (Sel.none _) | exact Sel.skip (Sel.take (Sel.none _)) | exact Sel.skip (Sel.skip (Sel.take (Sel.none _))) | exact Sel.skip (Sel.skip (Sel.skip (Sel.take (Sel.none _)))) | exact Sel.skip (Sel.skip (Sel.skip (Sel.skip (Sel.take (Sel.none _)))))) SPs.rfl (LSub.cons (by first | exact Sel.take (Sel.none _) | exact Sel.skip (Sel.take (Sel.none _)) | exact Sel.skip (Sel.skip (Sel.take (Sel.none _))) | exact Sel.skip (Sel.skip (Sel.skip (Sel.take (Sel.none _)))) | exact Sel.skip (Sel.skip (Sel.skip (Sel.skip (Sel.take (Sel.none _)))))) (own_eq (by rw [range_succ_map, List.append_assoc])) LSub.nil))
          · try simp only [decide_eq_true_eq, decide_eq_false_iff_not, Bool.and_eq_true, Bool.or_eq_true, Bool.and_eq_false_iff, Bool.or_eq_false_iff, Bool.not_eq_true', Bool.not_eq_false', Int.not_lt, Int.not_le, Bool.not_true, Bool.not_false] at hc7
            refine J_exit ?_
            refine J_region ?_
            refine JL_step rfl rfl rfl (step_add Sub.rfl Sub.rfl ?sg1) ?_
            case sg1 => unfold in64; omega
            refine JL_step rfl rfl rfl (step_move Sub.rfl) ?_
            refine JL_nil ?_
            refine K_againL (σ := Nat × Value) (s := (i, v)) (i + 1, v) (by first | omega | (dsimp only; omega) | (simp_all; omega)) (by simp; omega) (SubE.upd Sub.rfl (SubE.upd Sub.rfl (SubE.upd Sub.rfl (SubE.upd Sub.rfl (SubE.upd Sub.rfl (SubE.upd Sub.rfl (SubE.upd Sub.rfl SubE.any))))))) (LSub.cons (by first | exact Sel.take (Sel.none _) | exact Sel.skip (Sel.take (Sel.none _)) | exact Sel.skip (Sel.skip (Sel.take (Sel.none _))) | exact Sel.skip (Sel.skip (Sel.skip (Sel.take (Sel.none _)))) | exact Sel.skip (Sel.skip (Sel.skip (Sel.skip (Sel.take (Sel.none _)))))) SPs.rfl (LSub.cons (by first | exact Sel.take (Sel.none _) | exact Sel.skip (Sel.take (Sel.none _)) | exact Sel.skip (Sel.skip (Sel.take (Sel.none _))) | exact Sel.skip (Sel.skip (Sel.skip (Sel.take (Sel.none _)))) | exact Sel.skip (Sel.skip (Sel.skip (Sel.skip (Sel.take (Sel.none _)))))) (own_eq (by obtain rfl : j = 2 := (by omega); rw [take_fixT hlt]; rfl)) LSub.nil))
        · try simp only [decide_eq_true_eq, decide_eq_false_iff_not, Bool.and_eq_true, Bool.or_eq_true, Bool.and_eq_false_iff, Bool.or_eq_false_iff, Bool.not_eq_true', Bool.not_eq_false', Int.not_lt, Int.not_le, Bool.not_true, Bool.not_false] at hc6
          refine J_exit ?_
          refine J_seq ?_
          refine J_seq ?_
          refine J_region ?_
          refine JL_step rfl rfl rfl (step_fieldAddr so32 Sub.rfl rfl) ?_
          refine JL_step rfl rfl rfl (step_load_ptr ty24 Sub.rfl) ?_
          refine JL_step rfl rfl rfl (step_len_sl Tryz.underlying24 Sub.rfl) ?_
          refine JL_step rfl rfl rfl (step_move Sub.rfl) ?_
          refine JL_nil ?_
          refine J_block ?_
          refine J_loopL (σ := Nat × Value) (fun ⟨i, v⟩ => i ≤ r.Cols.length) (fun ⟨i, v⟩ => upd (upd (upd (upd (upd (upd (upd env0 1 (tPtr rRule r)) 2 (tV (.slice none 0 0))) 3 (tV (.func (.func 34) #[] #[]))) 4 (tAt v4 0)) 54 (tSl rInt r.Cols)) 55 (tV (.int .i64 r.Cols.length))) 56 (tV (.int .i64 i))) (fun ⟨i, v⟩ => [box v4 32 rRuleW (outW r v), own 66 rTest v (preT r ++ (r.Cols.take i).map (bothT · 1))]) (fun ⟨i, v⟩ => r.Cols.length - i) (0, _) (by simp) (SubE.upd Sub.rfl (SubE.upd Sub.rfl (SubE.upd Sub.rfl (SubE.upd Sub.rfl (SubE.upd Sub.rfl (SubE.upd Sub.rfl (SubE.upd Sub.rfl SubE.any))))))) (LSub.cons (by first | exact Sel.take (Sel.none _) | exact Sel.skip (Sel.take (Sel.none _)) | exact Sel.skip (Sel.skip (Sel.take (Sel.none _))) | exact Sel.skip (Sel.skip (Sel.skip (Sel.take (Sel.none _)))) | exact Sel.skip (Sel.skip (Sel.skip (Sel.skip (Sel.take (Sel.none _)))))) SPs.rfl (LSub.cons (by first | exact Sel.take (Sel.none _) | exact Sel.skip (Sel.take (Sel.none _)) | exact Sel.skip (Sel.skip (Sel.take (Sel.none _))) | exact Sel.skip (Sel.skip (Sel.skip (Sel.take (Sel.none _)))) | exact Sel.skip (Sel.skip (Sel.skip (Sel.skip (Sel.take (Sel.none _)))))) (own_eq (by first | (obtain rfl : i = r.Fixed.length := (by omega); simp_all [preT]; done) | simp_all [preT])) LSub.nil)) ?_
          rintro ⟨i, v⟩ hi
          try dsimp only at hi
          refine J_seq ?_
          refine J_region ?_
          refine JL_step rfl rfl rfl (step_lss Sub.rfl Sub.rfl) ?_
          refine JL_nil ?_
          refine J_seq ?_
          refine J_cond Sub.rfl (fun hc8 => ?_) (fun hc8 => ?_)
          · try simp only [decide_eq_true_eq, decide_eq_false_iff_not, Bool.and_eq_true, Bool.or_eq_true, Bool.and_eq_false_iff, Bool.or_eq_false_iff, Bool.not_eq_true', Bool.not_eq_false', Int.not_lt, Int.not_le, Bool.not_true, Bool.not_false] at hc8
            have hlt : i < r.Cols.length := by omega
            refine J_skip ?_
            refine J_seq ?_
            refine J_block ?_
            refine J_seq ?_
            refine J_region ?_
            refine JL_step rfl rfl rfl (step_indexAddr_sl  Tryz.underlying24 ty3 Sub.rfl Sub.rfl rfl (gb ?sg1)) ?_
            case sg1 => first | assumption | omega
            refine JL_step rfl rfl rfl (step_load_ptr ty3 Sub.rfl) ?_
            refine JL_step rfl rfl rfl (step_assign Sub.rfl) ?_
            refine JL_nil ?_
            refine J_draw [⟨0, [4], true⟩, ⟨2, [3], true⟩, ⟨3, [9], true⟩, ⟨4, [62, 63], true⟩, ⟨5, [64], true⟩, ⟨1, [60], false⟩, ⟨6, [61, 65], false⟩, ⟨7, [4], true⟩, ⟨8, [66, 67], false⟩] rfl (by kernel_rfl) ?_
            refine JM_step rfl rfl rfl rfl (fun _ => step_fieldAddr_own so32W Sub.rfl rfl) ?_
            refine JM_step rfl rfl rfl rfl (fun _ => step_move Sub.rfl) ?_
            refine JM_step rfl rfl rfl rfl (fun _ => step_move Sub.rfl) ?_
            refine JM_step rfl rfl rfl rfl (fun _ => step_callv0 (aT := [_, _]) Sub.clo0 (both_spec _ _) ⟨Sub.rfl, Sub.rfl, trivial⟩ Tryz.call34) ?_
            refine JM_step rfl rfl rfl rfl (fun _ => step_literal (ys := [_]) Tryz.underlying30 el66 ⟨rfl, Sub.rfl, trivial⟩ rfl (by decide)) ?_
            refine JM_look rfl rfl rfl rfl (step_load_fld ty30V32 Sub.rfl rfl (by first | exact Sel.take (Sel.none _) | exact Sel.skip (Sel.take (Sel.none _)) | exact Sel.skip (Sel.skip (Sel.take (Sel.none _))) | exact Sel.skip (Sel.skip (Sel.skip (Sel.take (Sel.none _)))) | exact Sel.skip (Sel.skip (Sel.skip (Sel.skip (Sel.take (Sel.none _))))))) ?_
            refine JM_stepX rfl rfl rfl rfl (step_append Tryz.underlying30 el66 Sub.rfl Sub.rfl (by first | exact Sel.take (Sel.none _) | exact Sel.skip (Sel.take (Sel.none _)) | exact Sel.skip (Sel.skip (Sel.take (Sel.none _))) | exact Sel.skip (Sel.skip (Sel.skip (Sel.take (Sel.none _)))) | exact Sel.skip (Sel.skip (Sel.skip (Sel.skip (Sel.take (Sel.none _)))))) (by have := preT_len r; simp [fixT_len]; omega) (by have := preT_len r; simp [fixT_len]; omega)) fun v66 => ?_
            refine JM_step rfl rfl rfl rfl (fun _ => step_fieldAddr_own so32W Sub.rfl rfl) ?_
            refine JM_stepU rfl rfl rfl (step_store_fld (R := rV) (y' := outW r v66) ty30V32 Sub.rfl Sub.rfl (by first | exact Sel.take (Sel.none _) | exact Sel.skip (Sel.take (Sel.none _)) | exact Sel.skip (Sel.skip (Sel.take (Sel.none _))) | exact Sel.skip (Sel.skip (Sel.skip (Sel.take (Sel.none _)))) | exact Sel.skip (Sel.skip (Sel.skip (Sel.skip (Sel.take (Sel.none _)))))) ?sg1) fun _ => ?_
            case sg1 => exact ⟨rfl, rfl, rfl, rfl, rfl, rfl, rfl, rfl, rfl, fun _ _ q => q, rfl, fun _ h => (by cases h)⟩
            refine JM_nil ?_
            refine J_region ?_
            refine JL_step rfl rfl rfl (step_add Sub.rfl Sub.rfl ?sg1) ?_
            case sg1 => unfold in64; omega
            refine JL_step rfl rfl rfl (step_move Sub.rfl) ?_
            refine JL_nil ?_
            refine K_againL (σ := Nat × Value) (s := (i, v)) (i + 1, v66) (by first | omega | (dsimp only; omega) | (simp_all; omega)) (by simp; omega) (SubE.upd Sub.rfl (SubE.upd Sub.rfl (SubE.upd Sub.rfl (SubE.upd Sub.rfl (SubE.upd Sub.rfl (SubE.upd Sub.rfl (SubE.upd Sub.rfl SubE.any))))))) (LSub.cons (by first | exact Sel.take (Sel.none _) | exact Sel.skip (Sel.take (Sel.none _)) | exact Sel.skip (Sel.skip (Sel.take (Sel.none _))) | exact Sel.skip (Sel.skip (Sel.skip (Sel.take (Sel.none _)))) | exact Sel.skip (Sel.skip (Sel.skip (Sel.skip (Sel.take (Sel.none _)))))) SPs.rfl (LSub.cons (by first | exact Sel.take (Sel.none _) | exact Sel.skip (Sel.take (Sel.none _)) | exact Sel.skip (Sel.skip (Sel.take (Sel.none _))) | exact Sel.skip (Sel.skip (Sel.skip (Sel.take (Sel.none _)))) | exact Sel.skip (Sel.skip (Sel.skip (Sel.skip (Sel.take (Sel.none _)))))) (own_eq (by rw [take_succ_map (bothT · 1) hlt, List.append_assoc])) LSub.nil))
          · try simp only [decide_eq_true_eq, decide_eq_false_iff_not, Bool.and_eq_true, Bool.or_eq_true, Bool.and_eq_false_iff, Bool.or_eq_false_iff, Bool.not_eq_true', Bool.not_eq_false', Int.not_lt, Int.not_le, Bool.not_true, Bool.not_false] at hc8
            refine J_exit ?_
            refine J_seq ?_
            refine J_seq ?_
            refine J_region ?_
            refine JL_step rfl rfl rfl (step_fieldAddr so32 Sub.rfl rfl) ?_
            refine JL_step rfl rfl rfl (step_load_ptr ty3 Sub.rfl) ?_
            refine JL_step rfl rfl rfl (step_eql Sub.rfl Sub.rfl) ?_
            refine JL_nil ?_
            refine J_cond Sub.rfl (fun hc9 => ?_) (fun hc9 => ?_)
            · try simp only [decide_eq_true_eq, decide_eq_false_iff_not, Bool.and_eq_true, Bool.or_eq_true, Bool.and_eq_false_iff, Bool.or_eq_false_iff, Bool.not_eq_true', Bool.not_eq_false', Int.not_lt, Int.not_le, Bool.not_true, Bool.not_false] at hc9
              refine J_draw [⟨0, [4], true⟩, ⟨2, [3], true⟩, ⟨3, [1], true⟩, ⟨4, [75], true⟩, ⟨5, [74, 76], true⟩, ⟨6, [77], true⟩, ⟨1, [72], false⟩, ⟨7, [73, 78], false⟩, ⟨8, [4], true⟩, ⟨9, [79, 80], false⟩] rfl (by kernel_rfl) ?_
              refine JM_step rfl rfl rfl rfl (fun _ => step_fieldAddr_own so32W Sub.rfl rfl) ?_
              refine JM_step rfl rfl rfl rfl (fun _ => step_move Sub.rfl) ?_
              refine JM_step rfl rfl rfl rfl (fun _ => step_fieldAddr so32 Sub.rfl rfl) ?_
              refine JM_step rfl rfl rfl rfl (fun _ => step_load_ptr ty3 Sub.rfl) ?_
              refine JM_step rfl rfl rfl rfl (fun _ => step_callv0 (aT := [_, _]) Sub.clo0 (both_spec _ _) ⟨Sub.rfl, Sub.rfl, trivial⟩ Tryz.call34) ?_
              refine JM_step rfl rfl rfl rfl (fun _ => step_literal (ys := [_]) Tryz.underlying30 el66 ⟨rfl, Sub.rfl, trivial⟩ rfl (by decide)) ?_
              refine JM_look rfl rfl rfl rfl (step_load_fld ty30V32 Sub.rfl rfl (by first | exact Sel.take (Sel.none _) | exact Sel.skip (Sel.take (Sel.none _)) | exact Sel.skip (Sel.skip (Sel.take (Sel.none _))) | exact Sel.skip (Sel.skip (Sel.skip (Sel.take (Sel.none _)))) | exact Sel.skip (Sel.skip (Sel.skip (Sel.skip (Sel.take (Sel.none _))))))) ?_
              refine JM_stepX rfl rfl rfl rfl (step_append Tryz.underlying30 el66 Sub.rfl Sub.rfl (by first | exact Sel.take (Sel.none _) | exact Sel.skip (Sel.take (Sel.none _)) | exact Sel.skip (Sel.skip (Sel.take (Sel.none _))) | exact Sel.skip (Sel.skip (Sel.skip (Sel.take (Sel.none _)))) | exact Sel.skip (Sel.skip (Sel.skip (Sel.skip (Sel.take (Sel.none _)))))) (by have := preT_len r; simp [fixT_len]; omega) (by have := preT_len r; simp [fixT_len]; omega)) fun v79 => ?_
              refine JM_step rfl rfl rfl rfl (fun _ => step_fieldAddr_own so32W Sub.rfl rfl) ?_
              refine JM_stepU rfl rfl rfl (step_store_fld (R := rV) (y' := outW r v79) ty30V32 Sub.rfl Sub.rfl (by first | exact Sel.take (Sel.none _) | exact Sel.skip (Sel.take (Sel.none _)) | exact Sel.skip (Sel.skip (Sel.take (Sel.none _))) | exact Sel.skip (Sel.skip (Sel.skip (Sel.take (Sel.none _)))) | exact Sel.skip (Sel.skip (Sel.skip (Sel.skip (Sel.take (Sel.none _)))))) ?sg1) fun _ => ?_
              case sg1 => exact ⟨rfl, rfl, rfl, rfl, rfl, rfl, rfl, rfl, rfl, fun _ _ q => q, rfl, fun _ h => (by cases h)⟩
              refine JM_nil ?_
              refine J_seq ?_
              refine J_region ?_
              refine JL_freeze (t := 4) (Sel.all _) (Frz.up (y := (outW r _).up _) fun h h2 cs l hv q => up32W _ l hv q) ?_
              refine JL_step rfl rfl rfl (step_load_ptr ty32 Sub.rfl) ?_
              refine JL_step rfl rfl rfl (step_literal (ys := [_]) Tryz.underlying22 el32 ⟨rfl, Sub.rfl, trivial⟩ rfl (by decide)) ?_
              refine JL_step rfl rfl rfl (step_assign Sub.rfl) ?_
              refine JL_nil ?_
              refine J_ret ?_
              refine K_ret1 (t := 2) rfl () ?_
              refine Sub.sl ?_
              first
                | (exfalso; omega)
                | (have e : i = r.Cols.length := by omega
                   simp_all [lowerR, lowT, outW, GRuleW.up, zRule, zRuleW])
            · try simp only [decide_eq_true_eq, decide_eq_false_iff_not, Bool.and_eq_true, Bool.or_eq_true, Bool.and_eq_false_iff, Bool.or_eq_false_iff, Bool.not_eq_true', Bool.not_eq_false', Int.not_lt, Int.not_le, Bool.not_true, Bool.not_false] at hc9
              refine J_skip ?_
              refine J_seq ?_
              refine J_region ?_
              refine JL_freeze (t := 4) (Sel.all _) (Frz.up (y := (outW r _).up _) fun h h2 cs l hv q => up32W _ l hv q) ?_
              refine JL_step rfl rfl rfl (step_load_ptr ty32 Sub.rfl) ?_
              refine JL_step rfl rfl rfl (step_literal (ys := [_]) Tryz.underlying22 el32 ⟨rfl, Sub.rfl, trivial⟩ rfl (by decide)) ?_
              refine JL_step rfl rfl rfl (step_assign Sub.rfl) ?_
              refine JL_nil ?_
              refine J_ret ?_
              refine K_ret1 (t := 2) rfl () ?_
              refine Sub.sl ?_
              first
                | (exfalso; omega)
                | (have e : i = r.Cols.length := by omega
                   simp_all [lowerR, lowT, outW, GRuleW.up, zRule, zRuleW])
      · try simp only [decide_eq_true_eq, decide_eq_false_iff_not, Bool.and_eq_true, Bool.or_eq_true, Bool.and_eq_false_iff, Bool.or_eq_false_iff, Bool.not_eq_true', Bool.not_eq_false', Int.not_lt, Int.not_le, Bool.not_true, Bool.not_false] at hc5
        refine J_seq ?_
        refine J_region ?_
        refine JL_step rfl rfl rfl (step_assign Sub.rfl) ?_
        refine JL_nil ?_
        refine J_ret ?_
        refine K_drop (Sel.all _) ?_
        refine K_ret1 (t := 2) rfl () ?_
        refine Sub.trans Sub.nilsl (Sub.sl ?_)
        simp [lowerR, *]
def okD3 (d : GRule) : Bool := decide (0 < (d.Tables.length : Int)) && decide ((d.Tables.length : Int) ≤ 3)
def loweredR (l : List GRule) : List GRule := l.flatMap fun r => (lowerR r).filter okD3
theorem lowerR_len (r : GRule) : (lowerR r).length ≤ 1 := by unfold lowerR; (repeat' split) <;> simp
theorem loweredR_len (l : List GRule) : (loweredR l).length ≤ l.length := by
  induction l with
  | nil => simp [loweredR]
  | cons a l ih =>
    have h1 := lowerR_len a
    have h2 := List.length_filter_le okD3 (lowerR a)
    simp only [loweredR, List.flatMap_cons, List.length_append, List.length_cons] at ih ⊢
    omega
theorem take_lowered {l : List GRule} {i : Nat} (h : i < l.length) : loweredR (l.take (i + 1)) = loweredR (l.take i) ++ (lowerR (nth l i)).filter okD3 := by rw [takeB h]; simp [loweredR]
theorem take_filter {α : Type} [Inhabited α] (p : α → Bool) {l : List α} {i : Nat} (h : i < l.length) : (l.take (i + 1)).filter p = (l.take i).filter p ++ (if p (nth l i) then [nth l i] else []) := by
  rw [takeB h, List.filter_append]; simp [List.filter_cons]

theorem lowered_spec (rules : List GRule) (hn : rules.length ≤ 1000000) (hr : ∀ r ∈ rules, r.Fixed.length ≤ 1000000 ∧ r.Cols.length ≤ 1000000) : Fun1 Tryz.prog 59 [tSl rRule rules] (tSl rRule (loweredR rules)) := by
  refine Spec.enter Tryz.func59 rfl rfl fun h0 w0 fr0 => ?_
  refine J_seq ?_
  refine J_region ?_
  refine JL_step rfl rfl rfl (step_assign Sub.rfl) ?_
  refine JL_nil ?_
  refine J_seq ?_
  refine J_region ?_
  refine JL_step rfl rfl rfl (step_assign Sub.rfl) ?_
  refine JL_nil ?_
  refine J_seq ?_
  refine J_seq ?_
  refine J_region ?_
  refine JL_step rfl rfl rfl (step_move Sub.rfl) ?_
  refine JL_step rfl rfl rfl (step_len_sl Tryz.underlying22 Sub.rfl) ?_
  refine JL_step rfl rfl rfl (step_move Sub.rfl) ?_
  refine JL_nil ?_
  refine J_block ?_
  refine J_loopL (σ := Nat × Value) (fun ⟨i, v⟩ => i ≤ rules.length) (fun ⟨i, v⟩ => upd (upd (upd (upd (upd env0 2 (tV (.slice none 0 0))) 3 (rV.ty v)) 9 (tSl rRule rules)) 10 (tV (.int .i64 rules.length))) 11 (tV (.int .i64 i))) (fun ⟨i, v⟩ => [own 32 rRule v (loweredR (rules.take i))]) (fun ⟨i, v⟩ => rules.length - i) (0, .slice none 0 0) (by simp) (SubE.upd Sub.rfl (SubE.upd Sub.rfl (SubE.upd Sub.rfl (SubE.upd (Sub.rV rfl) (SubE.upd Sub.rfl SubE.any))))) (LSub.nilown) ?_
  rintro ⟨i, v⟩ hi
  try dsimp only at hi
  refine J_seq ?_
  refine J_region ?_
  refine JL_step rfl rfl rfl (step_lss Sub.rfl Sub.rfl) ?_
  refine JL_nil ?_
  refine J_seq ?_
  refine J_cond Sub.rfl (fun hc1 => ?_) (fun hc1 => ?_)
  · try simp only [decide_eq_true_eq, decide_eq_false_iff_not, Bool.and_eq_true, Bool.or_eq_true, Bool.and_eq_false_iff, Bool.or_eq_false_iff, Bool.not_eq_true', Bool.not_eq_false', Int.not_lt, Int.not_le, Bool.not_true, Bool.not_false] at hc1
    have hlt : i < rules.length := by omega
    refine J_skip ?_
    refine J_seq ?_
    refine J_block ?_
    refine J_seq ?_
    refine J_region ?_
    refine JL_step rfl rfl rfl (step_indexAddr_sl  Tryz.underlying22 ty32 Sub.rfl Sub.rfl rfl (gb ?sg1)) ?_
    case sg1 => first | assumption | omega
    refine JL_step rfl rfl rfl (step_load_ptr ty32 Sub.rfl) ?_
    refine JL_stepX rfl rfl rfl (step_alloc (fun w => Tryz.zeroValue32 w) zr32) fun v5 => ?_
    refine JL_stepU rfl rfl (step_store_box ty32 Sub.rfl Sub.rfl (by first | exact Sel.take (Sel.none _) | exact Sel.skip (Sel.take (Sel.none _)) | exact Sel.skip (Sel.skip (Sel.take (Sel.none _))) | exact Sel.skip (Sel.skip (Sel.skip (Sel.take (Sel.none _)))) | exact Sel.skip (Sel.skip (Sel.skip (Sel.skip (Sel.take (Sel.none _))))))) fun _ => ?_
    refine JL_freeze (t := 5) (Sel.take (Sel.none _)) Frz.box ?_
    refine JL_nil ?_
    refine J_seq ?_
    refine J_region ?_
    refine JL_step rfl rfl rfl (step_load_ptr ty32 Sub.rfl) ?_
    refine JL_step rfl rfl rfl (step_call0 (Lower_spec _ (hr _ (nth_mem hlt)).1 (hr _ (nth_mem hlt)).2) ⟨Sub.rfl, trivial⟩ Tryz.call13) ?_
    refine JL_step rfl rfl rfl (step_len_sl Tryz.underlying22 Sub.rfl) ?_
    refine JL_step rfl rfl rfl (step_move Sub.rfl) ?_
    refine JL_nil ?_
    refine J_block ?_
    refine J_loopL (σ := Nat × Value) (fun ⟨j, v⟩ => j ≤ (lowerR (nth rules i)).length) (fun ⟨j, v⟩ => upd (upd (upd (upd (upd (upd (upd (upd env0 2 (tV (.slice none 0 0))) 3 (rV.ty v)) 9 (tSl rRule rules)) 10 (tV (.int .i64 rules.length))) 11 (tV (.int .i64 i))) 16 (tSl rRule (lowerR (nth rules i)))) 17 (tV (.int .i64 (lowerR (nth rules i)).length))) 18 (tV (.int .i64 j))) (fun ⟨j, v⟩ => [own 32 rRule v (loweredR (rules.take i) ++ ((lowerR (nth rules i)).take j).filter okD3)]) (fun ⟨j, v⟩ => (lowerR (nth rules i)).length - j) (0, v) (by simp) (SubE.upd Sub.rfl (SubE.upd Sub.rfl (SubE.upd Sub.rfl (SubE.upd Sub.rfl (SubE.upd Sub.rfl (SubE.upd Sub.rfl (SubE.upd Sub.rfl (SubE.upd Sub.rfl SubE.any)))))))) (LSub.cons (by first | exact Sel.take (Sel.none _) | exact Sel.skip (Sel.take (Sel.none _)) | exact Sel.skip (Sel.skip (Sel.take (Sel.none _))) | exact Sel.skip (Sel.skip (Sel.skip (Sel.take (Sel.none _)))) | exact Sel.skip (Sel.skip (Sel.skip (Sel.skip (Sel.take (Sel.none _)))))) (own_eq (by simp)) LSub.nil) ?_
    rintro ⟨j, v⟩ hj
    try dsimp only at hj
    refine J_seq ?_
    refine J_region ?_
    refine JL_step rfl rfl rfl (step_lss Sub.rfl Sub.rfl) ?_
    refine JL_nil ?_
    refine J_seq ?_
    refine J_cond Sub.rfl (fun hc2 => ?_) (fun hc2 => ?_)
    · try simp only [decide_eq_true_eq, decide_eq_false_iff_not, Bool.and_eq_true, Bool.or_eq_true, Bool.and_eq_false_iff, Bool.or_eq_false_iff, Bool.not_eq_true', Bool.not_eq_false', Int.not_lt, Int.not_le, Bool.not_true, Bool.not_false] at hc2
      have hltj : j < (lowerR (nth rules i)).length := by omega
      have hl1 := lowerR_len (nth rules i)
      refine J_skip ?_
      refine J_seq ?_
      refine J_block ?_
      refine J_seq ?_
      refine J_region ?_
      refine JL_step rfl rfl rfl (step_indexAddr_sl  Tryz.underlying22 ty32 Sub.rfl Sub.rfl rfl (gb ?sg1)) ?_
      case sg1 => first | assumption | omega
      refine JL_step rfl rfl rfl (step_load_ptr ty32 Sub.rfl) ?_
      refine JL_stepX rfl rfl rfl (step_alloc (fun w => Tryz.zeroValue32 w) zr32) fun v7 => ?_
      refine JL_stepU rfl rfl (step_store_box ty32 Sub.rfl Sub.rfl (by first | exact Sel.take (Sel.none _) | exact Sel.skip (Sel.take (Sel.none _)) | exact Sel.skip (Sel.skip (Sel.take (Sel.none _))) | exact Sel.skip (Sel.skip (Sel.skip (Sel.take (Sel.none _)))) | exact Sel.skip (Sel.skip (Sel.skip (Sel.skip (Sel.take (Sel.none _))))))) fun _ => ?_
      refine JL_freeze (t := 7) (Sel.take (Sel.none _)) Frz.box ?_
      refine JL_nil ?_
      refine J_seq ?_
      refine J_region ?_
      refine JL_step rfl rfl rfl (step_fieldAddr so32 Sub.rfl rfl) ?_
      refine JL_step rfl rfl rfl (step_load_ptr ty24 Sub.rfl) ?_
      refine JL_step rfl rfl rfl (step_len_sl Tryz.underlying24 Sub.rfl) ?_
      refine JL_step rfl rfl rfl (step_assign Sub.rfl) ?_
      refine JL_nil ?_
      refine J_seq ?_
      refine J_region ?_
      refine JL_step rfl rfl rfl (step_move Sub.rfl) ?_
      refine JL_step rfl rfl rfl (step_lss Sub.rfl Sub.rfl) ?_
      refine JL_step rfl rfl rfl (step_move Sub.rfl) ?_
      refine JL_stepG rfl rfl rfl (Gd.plain Sub.rfl) rfl rfl (fun hw => step_move Sub.rfl) ?_
      refine JL_stepG rfl rfl rfl (Gd.plain Sub.rfl) rfl rfl (fun hw => step_leq (Sub.w hw) Sub.rfl) ?_
      refine JL_step rfl rfl rfl (step_pick_and Sub.rfl Sub.rfl) ?_
      refine JL_nil ?_
      refine J_cond Sub.rfl (fun hc3 => ?_) (fun hc3 => ?_)
      · try simp only [decide_eq_true_eq, decide_eq_false_iff_not, Bool.and_eq_true, Bool.or_eq_true, Bool.and_eq_false_iff, Bool.or_eq_false_iff, Bool.not_eq_true', Bool.not_eq_false', Int.not_lt, Int.not_le, Bool.not_true, Bool.not_false] at hc3
        have hok : okD3 (nth (lowerR (nth rules i)) j) = true := by unfold okD3; simp only [Bool.and_eq_true, decide_eq_true_eq]; exact hc3
        refine J_region ?_
        refine JL_step rfl rfl rfl (step_move Sub.rfl) ?_
        refine JL_step rfl rfl rfl (step_load_ptr ty32 Sub.rfl) ?_
        refine JL_step rfl rfl rfl (step_literal (ys := [_]) Tryz.underlying22 el32 ⟨rfl, Sub.rfl, trivial⟩ rfl (by decide)) ?_
        refine JL_stepX rfl rfl rfl (step_append Tryz.underlying22 el32 Sub.rfl Sub.rfl (by first | exact Sel.take (Sel.none _) | exact Sel.skip (Sel.take (Sel.none _)) | exact Sel.skip (Sel.skip (Sel.take (Sel.none _))) | exact Sel.skip (Sel.skip (Sel.skip (Sel.take (Sel.none _)))) | exact Sel.skip (Sel.skip (Sel.skip (Sel.skip (Sel.take (Sel.none _)))))) (by have := loweredR_len (rules.take i); have := List.length_filter_le okD3 ((lowerR (nth rules i)).take j); have := lowerR_len (nth rules i); simp at *; omega) (by have := loweredR_len (rules.take i); have := List.length_filter_le okD3 ((lowerR (nth rules i)).take j); have := lowerR_len (nth rules i); simp at *; omega)) fun v34 => ?_
        refine JL_step rfl rfl rfl (step_assign Sub.rfl) ?_
        refine JL_nil ?_
        refine J_region ?_
        refine JL_step rfl rfl rfl (step_add Sub.rfl Sub.rfl ?sg1) ?_
        case sg1 => unfold in64; omega
        refine JL_step rfl rfl rfl (step_move Sub.rfl) ?_
        refine JL_nil ?_
        refine K_againL (σ := Nat × Value) (s := (j, v)) (j + 1, v34) (by first | omega | (dsimp only; omega) | (simp_all; omega)) (by simp; omega) (SubE.upd Sub.rfl (SubE.upd Sub.rfl (SubE.upd Sub.rfl (SubE.upd Sub.rfl (SubE.upd Sub.rfl (SubE.upd Sub.rfl (SubE.upd Sub.rfl (SubE.upd Sub.rfl SubE.any)))))))) (LSub.cons (by first | exact Sel.take (Sel.none _) | exact Sel.skip (Sel.take (Sel.none _)) | exact Sel.skip (Sel.skip (Sel.take (Sel.none _))) | exact Sel.skip (Sel.skip (Sel.skip (Sel.take (Sel.none _)))) | exact Sel.skip (Sel.skip (Sel.skip (Sel.skip (Sel.take (Sel.none _)))))) (own_eq (by rw [take_filter okD3 hltj, hok, List.append_assoc]; simp)) LSub.nil)
      · try simp only [decide_eq_true_eq, decide_eq_false_iff_not, Bool.and_eq_true, Bool.or_eq_true, Bool.and_eq_false_iff, Bool.or_eq_false_iff, Bool.not_eq_true', Bool.not_eq_false', Int.not_lt, Int.not_le, Bool.not_true, Bool.not_false] at hc3
        have hok : okD3 (nth (lowerR (nth rules i)) j) = false := by unfold okD3; rw [Bool.and_eq_false_iff]; simp only [decide_eq_false_iff_not]; omega
        refine J_skip ?_
        refine J_region ?_
        refine JL_step rfl rfl rfl (step_add Sub.rfl Sub.rfl ?sg1) ?_
        case sg1 => unfold in64; omega
        refine JL_step rfl rfl rfl (step_move Sub.rfl) ?_
        refine JL_nil ?_
        refine K_againL (σ := Nat × Value) (s := (j, v)) (j + 1, v) (by first | omega | (dsimp only; omega) | (simp_all; omega)) (by simp; omega) (SubE.upd Sub.rfl (SubE.upd Sub.rfl (SubE.upd Sub.rfl (SubE.upd Sub.rfl (SubE.upd Sub.rfl (SubE.upd Sub.rfl (SubE.upd Sub.rfl (SubE.upd Sub.rfl SubE.any)))))))) (LSub.cons (by first | exact Sel.take (Sel.none _) | exact Sel.skip (Sel.take (Sel.none _)) | exact Sel.skip (Sel.skip (Sel.take (Sel.none _))) | exact Sel.skip (Sel.skip (Sel.skip (Sel.take (Sel.none _)))) | exact Sel.skip (Sel.skip (Sel.skip (Sel.skip (Sel.take (Sel.none _)))))) (own_eq (by rw [take_filter okD3 hltj, hok]; simp)) LSub.nil)
    · try simp only [decide_eq_true_eq, decide_eq_false_iff_not, Bool.and_eq_true, Bool.or_eq_true, Bool.and_eq_false_iff, Bool.or_eq_false_iff, Bool.not_eq_true', Bool.not_eq_false', Int.not_lt, Int.not_le, Bool.not_true, Bool.not_false] at hc2
      refine J_exit ?_
      refine J_region ?_
      refine JL_step rfl rfl rfl (step_add Sub.rfl Sub.rfl ?sg1) ?_
      case sg1 => unfold in64; omega
      refine JL_step rfl rfl rfl (step_move Sub.rfl) ?_
      refine JL_nil ?_
      refine K_againL (σ := Nat × Value) (s := (i, v)) (i + 1, v) (by first | omega | (dsimp only; omega) | (simp_all; omega)) (by simp; omega) (SubE.upd Sub.rfl (SubE.upd Sub.rfl (SubE.upd Sub.rfl (SubE.upd Sub.rfl (SubE.upd Sub.rfl SubE.any))))) (LSub.cons (by first | exact Sel.take (Sel.none _) | exact Sel.skip (Sel.take (Sel.none _)) | exact Sel.skip (Sel.skip (Sel.take (Sel.none _))) | exact Sel.skip (Sel.skip (Sel.skip (Sel.take (Sel.none _)))) | exact Sel.skip (Sel.skip (Sel.skip (Sel.skip (Sel.take (Sel.none _)))))) (own_eq (by obtain rfl : j = (lowerR (nth rules i)).length := (by omega); rw [take_lowered hlt, List.take_length])) LSub.nil)
  · try simp only [decide_eq_true_eq, decide_eq_false_iff_not, Bool.and_eq_true, Bool.or_eq_true, Bool.and_eq_false_iff, Bool.or_eq_false_iff, Bool.not_eq_true', Bool.not_eq_false', Int.not_lt, Int.not_le, Bool.not_true, Bool.not_false] at hc1
    refine J_exit ?_
    refine J_seq ?_
    refine J_region ?_
    refine JL_step rfl rfl rfl (step_move Sub.rfl) ?_
    refine JL_step rfl rfl rfl (step_assign Sub.rfl) ?_
    refine JL_nil ?_
    refine J_ret ?_
    refine K_ret1' (rv := .tmp 2) rfl () (Sel.all _) (.tmp Sub.rfl) ?_
    exact Frz.own' (by obtain rfl : i = rules.length := (by omega); rw [List.take_length])
end Lg

namespace Lg
open Go Go.Proofs


/-- The value of a side, whether there is one, whether it must wait. -/
def sideV (s : GSide) (n : Int) (at_ : List Int) (facts : List GFact) : GValue × Bool × Bool :=
  if s.Var = -1 then (s.Value, true, false)
  else if s.Var < 0 ∨ n ≤ s.Var then (zValue, false, false)
  else if (at_.length : Int) ≤ s.Var then (zValue, true, true)
  else if s.Col < 0 ∨ ((nth facts (nth at_ s.Var.toNat).toNat).Row.length : Int) ≤ s.Col then (zValue, false, false)
  else (nth (nth facts (nth at_ s.Var.toNat).toNat).Row s.Col.toNat, true, false)
def holdsV (t : GTest) (n : Int) (facts : List GFact) (at_ : List Int) : Bool :=
  (sideV t.Left n at_ facts).2.1 && (sideV t.Right n at_ facts).2.1 &&
  (((sideV t.Left n at_ facts).2.2 || (sideV t.Right n at_ facts).2.2) || testV (sideV t.Left n at_ facts).1 t.Op (sideV t.Right n at_ facts).1 t.Add)
def InB (l : List Int) (n : Nat) : Prop := ∀ a ∈ l, 0 ≤ a ∧ a < (n : Int)

theorem holds1_spec (s : GSide) (n : Int) (at_ : List Int) (facts : List GFact) (b : Nat) (l : Bool) (hb : InB at_ facts.length) : Spec (X := Unit) Tryz.prog 104 [rSide.ty s, tPtr rInt n, tPtr (rSl rInt) at_, tAt b 0, tPtr (rSl rFact) facts] ([box b 4 rBool l]) (fun _ => tTup [rValue.ty (sideV s n at_ facts).1, tV (.bool (sideV s n at_ facts).2.1)]) (fun _ => [box b 4 rBool (l || (sideV s n at_ facts).2.2)]) := by
  refine Spec.enter Tryz.func104 rfl rfl fun h0 w0 fr0 => ?_
  refine J_seq ?_
  refine J_region ?_
  refine JL_step rfl rfl rfl (step_box (R := rSide) Sub.rfl) ?_
  refine JL_stepX rfl rfl rfl (step_alloc (fun w => Tryz.zeroValue60 w) zr60) fun v6 => ?_
  refine JL_step rfl rfl rfl (step_assign Sub.rfl) ?_
  refine JL_nil ?_
  refine J_seq ?_
  refine J_block ?_
  refine J_seq ?_
  refine J_region ?_
  refine JL_step rfl rfl rfl (step_fieldAddr so62 Sub.rfl rfl) ?_
  refine JL_step rfl rfl rfl (step_load_ptr ty3 Sub.rfl) ?_
  refine JL_step rfl rfl rfl (step_eql Sub.rfl Sub.rfl) ?_
  refine JL_step rfl rfl rfl (step_assign Sub.rfl) ?_
  refine JL_nil ?_
  refine J_cond Sub.rfl (fun hc1 => ?_) (fun hc1 => ?_)
  · try simp only [decide_eq_true_eq, decide_eq_false_iff_not, Bool.and_eq_true, Bool.or_eq_true, Bool.and_eq_false_iff, Bool.or_eq_false_iff, Bool.not_eq_true', Bool.not_eq_false', Int.not_lt, Int.not_le, Bool.not_true, Bool.not_false] at hc1
    refine J_seq ?_
    refine J_region ?_
    refine JL_step rfl rfl rfl (step_fieldAddr so62 Sub.rfl rfl) ?_
    refine JL_step rfl rfl rfl (step_load_ptr ty60 Sub.rfl) ?_
    refine JL_stepU rfl rfl (step_store_box ty60 Sub.rfl Sub.rfl (by first | exact Sel.take (Sel.none _) | exact Sel.skip (Sel.take (Sel.none _)) | exact Sel.skip (Sel.skip (Sel.take (Sel.none _))) | exact Sel.skip (Sel.skip (Sel.skip (Sel.take (Sel.none _)))) | exact Sel.skip (Sel.skip (Sel.skip (Sel.skip (Sel.take (Sel.none _))))))) fun _ => ?_
    refine JL_step rfl rfl rfl (step_assign Sub.rfl) ?_
    refine JL_nil ?_
    refine J_ret ?_
    have hs : sideV s n at_ facts = (s.Value, true, false) := by simp [sideV, hc1]
    refine K_lsub (LSub.cons (by first | exact Sel.take (Sel.none _) | exact Sel.skip (Sel.take (Sel.none _)) | exact Sel.skip (Sel.skip (Sel.take (Sel.none _))) | exact Sel.skip (Sel.skip (Sel.skip (Sel.take (Sel.none _)))) | exact Sel.skip (Sel.skip (Sel.skip (Sel.skip (Sel.take (Sel.none _)))))) SPs.rfl (LSub.cons (by first | exact Sel.take (Sel.none _) | exact Sel.skip (Sel.take (Sel.none _)) | exact Sel.skip (Sel.skip (Sel.take (Sel.none _))) | exact Sel.skip (Sel.skip (Sel.skip (Sel.take (Sel.none _)))) | exact Sel.skip (Sel.skip (Sel.skip (Sel.skip (Sel.take (Sel.none _)))))) (box_eq (y := l || (sideV s n at_ facts).2.2) (by rw [hs]; simp)) LSub.nil)) ?_
    refine K_ret2' (rv := .cell 6 60) (rv' := .tmp 7) rfl () (Sel.take (Sel.skip Sel.nil)) (.cell ty60 Sub.rfl (Sel.take (Sel.none _)) Sub.rfl) (.tmp Sub.rfl) (Frz.sub Sub.rfl) (Frz.sub Sub.rfl) (Sub.of_eq ?_)
    rw [hs]; rfl
  · try simp only [decide_eq_true_eq, decide_eq_false_iff_not, Bool.and_eq_true, Bool.or_eq_true, Bool.and_eq_false_iff, Bool.or_eq_false_iff, Bool.not_eq_true', Bool.not_eq_false', Int.not_lt, Int.not_le, Bool.not_true, Bool.not_false] at hc1
    refine J_seq ?_
    refine J_region ?_
    refine JL_step rfl rfl rfl (step_fieldAddr so62 Sub.rfl rfl) ?_
    refine JL_step rfl rfl rfl (step_load_ptr ty3 Sub.rfl) ?_
    refine JL_step rfl rfl rfl (step_lss Sub.rfl Sub.rfl) ?_
    refine JL_step rfl rfl rfl (step_move Sub.rfl) ?_
    refine JL_stepG rfl rfl rfl (Gd.plain Sub.rfl) rfl rfl (fun hw => step_fieldAddr so62 Sub.rfl rfl) ?_
    refine JL_stepG rfl rfl rfl (Gd.plain Sub.rfl) rfl rfl (fun hw => step_load_ptr ty3 (Sub.w hw)) ?_
    refine JL_stepG rfl rfl rfl (Gd.plain Sub.rfl) rfl rfl (fun hw => step_load_ptr ty3 Sub.rfl) ?_
    refine JL_stepG rfl rfl rfl (Gd.plain Sub.rfl) rfl rfl (fun hw => step_geq (Sub.w hw) (Sub.w hw)) ?_
    refine JL_step rfl rfl rfl (step_pick_or Sub.rfl Sub.rfl) ?_
    refine JL_step rfl rfl rfl (step_assign Sub.rfl) ?_
    refine JL_nil ?_
    refine J_cond Sub.rfl (fun hc2 => ?_) (fun hc2 => ?_)
    · try simp only [decide_eq_true_eq, decide_eq_false_iff_not, Bool.and_eq_true, Bool.or_eq_true, Bool.and_eq_false_iff, Bool.or_eq_false_iff, Bool.not_eq_true', Bool.not_eq_false', Int.not_lt, Int.not_le, Bool.not_true, Bool.not_false] at hc2
      refine J_seq ?_
      refine J_region ?_
      refine JL_step rfl rfl rfl (step_build (x := (zValue : GValue)) (zs := [[Value.int .i64 0], [Value.int .i64 0], [Value.string ⟨#[]⟩]]) so60 (fun w => Tryz.zeroValue60 w) trivial ⟨fun _ => rfl, fun _ => rfl, fun _ => rfl, trivial⟩) ?_
      refine JL_stepU rfl rfl (step_store_box ty60 Sub.rfl Sub.rfl (by first | exact Sel.take (Sel.none _) | exact Sel.skip (Sel.take (Sel.none _)) | exact Sel.skip (Sel.skip (Sel.take (Sel.none _))) | exact Sel.skip (Sel.skip (Sel.skip (Sel.take (Sel.none _)))) | exact Sel.skip (Sel.skip (Sel.skip (Sel.skip (Sel.take (Sel.none _))))))) fun _ => ?_
      refine JL_step rfl rfl rfl (step_assign Sub.rfl) ?_
      refine JL_nil ?_
      refine J_ret ?_
      have hs : sideV s n at_ facts = (zValue, false, false) := by unfold sideV; rw [if_neg hc1, if_pos hc2]
      refine K_lsub (LSub.cons (by first | exact Sel.take (Sel.none _) | exact Sel.skip (Sel.take (Sel.none _)) | exact Sel.skip (Sel.skip (Sel.take (Sel.none _))) | exact Sel.skip (Sel.skip (Sel.skip (Sel.take (Sel.none _)))) | exact Sel.skip (Sel.skip (Sel.skip (Sel.skip (Sel.take (Sel.none _)))))) SPs.rfl (LSub.cons (by first | exact Sel.take (Sel.none _) | exact Sel.skip (Sel.take (Sel.none _)) | exact Sel.skip (Sel.skip (Sel.take (Sel.none _))) | exact Sel.skip (Sel.skip (Sel.skip (Sel.take (Sel.none _)))) | exact Sel.skip (Sel.skip (Sel.skip (Sel.skip (Sel.take (Sel.none _)))))) (box_eq (y := l || (sideV s n at_ facts).2.2) (by rw [hs]; simp)) LSub.nil)) ?_
      refine K_ret2' (rv := .cell 6 60) (rv' := .tmp 7) rfl () (Sel.take (Sel.skip Sel.nil)) (.cell ty60 Sub.rfl (Sel.take (Sel.none _)) Sub.rfl) (.tmp Sub.rfl) (Frz.sub Sub.rfl) (Frz.sub Sub.rfl) (Sub.of_eq ?_)
      rw [hs]; rfl
    · try simp only [decide_eq_true_eq, decide_eq_false_iff_not, Bool.and_eq_true, Bool.or_eq_true, Bool.and_eq_false_iff, Bool.or_eq_false_iff, Bool.not_eq_true', Bool.not_eq_false', Int.not_lt, Int.not_le, Bool.not_true, Bool.not_false] at hc2
      refine J_seq ?_
      refine J_region ?_
      refine JL_step rfl rfl rfl (step_fieldAddr so62 Sub.rfl rfl) ?_
      refine JL_step rfl rfl rfl (step_load_ptr ty3 Sub.rfl) ?_
      refine JL_step rfl rfl rfl (step_load_ptr ty24 Sub.rfl) ?_
      refine JL_step rfl rfl rfl (step_len_sl Tryz.underlying24 Sub.rfl) ?_
      refine JL_step rfl rfl rfl (step_geq Sub.rfl Sub.rfl) ?_
      refine JL_step rfl rfl rfl (step_assign Sub.rfl) ?_
      refine JL_nil ?_
      refine J_cond Sub.rfl (fun hc3 => ?_) (fun hc3 => ?_)
      · try simp only [decide_eq_true_eq, decide_eq_false_iff_not, Bool.and_eq_true, Bool.or_eq_true, Bool.and_eq_false_iff, Bool.or_eq_false_iff, Bool.not_eq_true', Bool.not_eq_false', Int.not_lt, Int.not_le, Bool.not_true, Bool.not_false] at hc3
        refine J_seq ?_
        refine J_region ?_
        refine JL_stepU rfl rfl (step_store_box ty4 Sub.rfl Sub.rfl (by first | exact Sel.take (Sel.none _) | exact Sel.skip (Sel.take (Sel.none _)) | exact Sel.skip (Sel.skip (Sel.take (Sel.none _))) | exact Sel.skip (Sel.skip (Sel.skip (Sel.take (Sel.none _)))) | exact Sel.skip (Sel.skip (Sel.skip (Sel.skip (Sel.take (Sel.none _))))))) fun _ => ?_
        refine JL_nil ?_
        refine J_seq ?_
        refine J_region ?_
        refine JL_step rfl rfl rfl (step_build (x := (zValue : GValue)) (zs := [[Value.int .i64 0], [Value.int .i64 0], [Value.string ⟨#[]⟩]]) so60 (fun w => Tryz.zeroValue60 w) trivial ⟨fun _ => rfl, fun _ => rfl, fun _ => rfl, trivial⟩) ?_
        refine JL_stepU rfl rfl (step_store_box ty60 Sub.rfl Sub.rfl (by first | exact Sel.take (Sel.none _) | exact Sel.skip (Sel.take (Sel.none _)) | exact Sel.skip (Sel.skip (Sel.take (Sel.none _))) | exact Sel.skip (Sel.skip (Sel.skip (Sel.take (Sel.none _)))) | exact Sel.skip (Sel.skip (Sel.skip (Sel.skip (Sel.take (Sel.none _))))))) fun _ => ?_
        refine JL_step rfl rfl rfl (step_assign Sub.rfl) ?_
        refine JL_nil ?_
        refine J_ret ?_
        have hs : sideV s n at_ facts = (zValue, true, true) := by unfold sideV; rw [if_neg hc1, if_neg (by omega), if_pos hc3]
        refine K_lsub (LSub.cons (by first | exact Sel.take (Sel.none _) | exact Sel.skip (Sel.take (Sel.none _)) | exact Sel.skip (Sel.skip (Sel.take (Sel.none _))) | exact Sel.skip (Sel.skip (Sel.skip (Sel.take (Sel.none _)))) | exact Sel.skip (Sel.skip (Sel.skip (Sel.skip (Sel.take (Sel.none _)))))) SPs.rfl (LSub.cons (by first | exact Sel.take (Sel.none _) | exact Sel.skip (Sel.take (Sel.none _)) | exact Sel.skip (Sel.skip (Sel.take (Sel.none _))) | exact Sel.skip (Sel.skip (Sel.skip (Sel.take (Sel.none _)))) | exact Sel.skip (Sel.skip (Sel.skip (Sel.skip (Sel.take (Sel.none _)))))) (box_eq (y := l || (sideV s n at_ facts).2.2) (by rw [hs]; simp)) LSub.nil)) ?_
        refine K_ret2' (rv := .cell 6 60) (rv' := .tmp 7) rfl () (Sel.take (Sel.skip Sel.nil)) (.cell ty60 Sub.rfl (Sel.take (Sel.none _)) Sub.rfl) (.tmp Sub.rfl) (Frz.sub Sub.rfl) (Frz.sub Sub.rfl) (Sub.of_eq ?_)
        rw [hs]; rfl
      · try simp only [decide_eq_true_eq, decide_eq_false_iff_not, Bool.and_eq_true, Bool.or_eq_true, Bool.and_eq_false_iff, Bool.or_eq_false_iff, Bool.not_eq_true', Bool.not_eq_false', Int.not_lt, Int.not_le, Bool.not_true, Bool.not_false] at hc3
        refine J_skip ?_
        refine J_seq ?_
        have hv0 : ¬ s.Var < 0 := by omega
        have hv1 : s.Var.toNat < at_.length := by omega
        obtain ⟨hf0, hf1⟩ := hb _ (nth_mem hv1)
        refine J_draw [⟨0, [4], true⟩, ⟨1, [2], true⟩, ⟨2, [5], true⟩, ⟨3, [35], true⟩, ⟨4, [34, 36], true⟩, ⟨5, [37], true⟩, ⟨6, [33, 38], true⟩, ⟨7, [39], true⟩, ⟨8, [40], true⟩, ⟨9, [41], true⟩] rfl (by kernel_rfl) ?_
        refine JM_step rfl rfl rfl rfl (fun _ => step_load_ptr ty23 Sub.rfl) ?_
        refine JM_step rfl rfl rfl rfl (fun _ => step_load_ptr ty24 Sub.rfl) ?_
        refine JM_step rfl rfl rfl rfl (fun _ => step_fieldAddr so62 Sub.rfl rfl) ?_
        refine JM_step rfl rfl rfl rfl (fun _ => step_load_ptr ty3 Sub.rfl) ?_
        refine JM_step rfl rfl rfl rfl (fun _ => step_indexAddr_sl (i := s.Var.toNat) Tryz.underlying24 ty3 Sub.rfl Sub.rfl ?sg1 (gb ?sg2)) ?_
        case sg1 => show s.Var = _; omega
        case sg2 => first | assumption | omega
        refine JM_step rfl rfl rfl rfl (fun _ => step_load_ptr ty3 Sub.rfl) ?_
        refine JM_step rfl rfl rfl rfl (fun _ => step_indexAddr_sl (i := (nth at_ s.Var.toNat).toNat) Tryz.underlying23 ty54 Sub.rfl Sub.rfl ?sg1 (gb ?sg2)) ?_
        case sg1 => show nth at_ s.Var.toNat = _; omega
        case sg2 => first | assumption | omega
        refine JM_step rfl rfl rfl rfl (fun _ => step_fieldAddr so54 Sub.rfl rfl) ?_
        refine JM_step rfl rfl rfl rfl (fun _ => step_load_ptr ty52 Sub.rfl) ?_
        refine JM_step rfl rfl rfl rfl (fun _ => step_assign Sub.rfl) ?_
        refine JM_nil ?_
        refine J_seq ?_
        refine J_seq ?_
        refine J_region ?_
        refine JL_step rfl rfl rfl (step_fieldAddr so62 Sub.rfl rfl) ?_
        refine JL_step rfl rfl rfl (step_load_ptr ty3 Sub.rfl) ?_
        refine JL_step rfl rfl rfl (step_lss Sub.rfl Sub.rfl) ?_
        refine JL_step rfl rfl rfl (step_move Sub.rfl) ?_
        refine JL_stepG rfl rfl rfl (Gd.plain Sub.rfl) rfl rfl (fun hw => step_fieldAddr so62 Sub.rfl rfl) ?_
        refine JL_stepG rfl rfl rfl (Gd.plain Sub.rfl) rfl rfl (fun hw => step_load_ptr ty3 (Sub.w hw)) ?_
        refine JL_stepG rfl rfl rfl (Gd.plain Sub.rfl) rfl rfl (fun hw => step_move Sub.rfl) ?_
        refine JL_stepG rfl rfl rfl (Gd.plain Sub.rfl) rfl rfl (fun hw => step_len_sl Tryz.underlying52 (Sub.w hw)) ?_
        refine JL_stepG rfl rfl rfl (Gd.plain Sub.rfl) rfl rfl (fun hw => step_geq (Sub.w hw) (Sub.w hw)) ?_
        refine JL_step rfl rfl rfl (step_pick_or Sub.rfl Sub.rfl) ?_
        refine JL_nil ?_
        refine J_cond Sub.rfl (fun hc4 => ?_) (fun hc4 => ?_)
        · try simp only [decide_eq_true_eq, decide_eq_false_iff_not, Bool.and_eq_true, Bool.or_eq_true, Bool.and_eq_false_iff, Bool.or_eq_false_iff, Bool.not_eq_true', Bool.not_eq_false', Int.not_lt, Int.not_le, Bool.not_true, Bool.not_false] at hc4
          refine J_seq ?_
          refine J_region ?_
          refine JL_step rfl rfl rfl (step_build (x := (zValue : GValue)) (zs := [[Value.int .i64 0], [Value.int .i64 0], [Value.string ⟨#[]⟩]]) so60 (fun w => Tryz.zeroValue60 w) trivial ⟨fun _ => rfl, fun _ => rfl, fun _ => rfl, trivial⟩) ?_
          refine JL_stepU rfl rfl (step_store_box ty60 Sub.rfl Sub.rfl (by first | exact Sel.take (Sel.none _) | exact Sel.skip (Sel.take (Sel.none _)) | exact Sel.skip (Sel.skip (Sel.take (Sel.none _))) | exact Sel.skip (Sel.skip (Sel.skip (Sel.take (Sel.none _)))) | exact Sel.skip (Sel.skip (Sel.skip (Sel.skip (Sel.take (Sel.none _))))))) fun _ => ?_
          refine JL_step rfl rfl rfl (step_assign Sub.rfl) ?_
          refine JL_nil ?_
          refine J_ret ?_
          have hs : sideV s n at_ facts = (zValue, false, false) := by unfold sideV; rw [if_neg hc1, if_neg (by omega), if_neg (by omega), if_pos hc4]
          refine K_lsub (LSub.cons (by first | exact Sel.take (Sel.none _) | exact Sel.skip (Sel.take (Sel.none _)) | exact Sel.skip (Sel.skip (Sel.take (Sel.none _))) | exact Sel.skip (Sel.skip (Sel.skip (Sel.take (Sel.none _)))) | exact Sel.skip (Sel.skip (Sel.skip (Sel.skip (Sel.take (Sel.none _)))))) SPs.rfl (LSub.cons (by first | exact Sel.take (Sel.none _) | exact Sel.skip (Sel.take (Sel.none _)) | exact Sel.skip (Sel.skip (Sel.take (Sel.none _))) | exact Sel.skip (Sel.skip (Sel.skip (Sel.take (Sel.none _)))) | exact Sel.skip (Sel.skip (Sel.skip (Sel.skip (Sel.take (Sel.none _)))))) (box_eq (y := l || (sideV s n at_ facts).2.2) (by rw [hs]; simp)) LSub.nil)) ?_
          refine K_ret2' (rv := .cell 6 60) (rv' := .tmp 7) rfl () (Sel.take (Sel.skip Sel.nil)) (.cell ty60 Sub.rfl (Sel.take (Sel.none _)) Sub.rfl) (.tmp Sub.rfl) (Frz.sub Sub.rfl) (Frz.sub Sub.rfl) (Sub.of_eq ?_)
          rw [hs]; rfl
        · try simp only [decide_eq_true_eq, decide_eq_false_iff_not, Bool.and_eq_true, Bool.or_eq_true, Bool.and_eq_false_iff, Bool.or_eq_false_iff, Bool.not_eq_true', Bool.not_eq_false', Int.not_lt, Int.not_le, Bool.not_true, Bool.not_false] at hc4
          have hc0 : ¬ s.Col < 0 := by omega
          have hc2 : s.Col.toNat < (nth facts (nth at_ s.Var.toNat).toNat).Row.length := by omega
          refine J_skip ?_
          refine J_seq ?_
          refine J_region ?_
          refine JL_step rfl rfl rfl (step_move Sub.rfl) ?_
          refine JL_step rfl rfl rfl (step_fieldAddr so62 Sub.rfl rfl) ?_
          refine JL_step rfl rfl rfl (step_load_ptr ty3 Sub.rfl) ?_
          refine JL_step rfl rfl rfl (step_indexAddr_sl (i := s.Col.toNat) Tryz.underlying52 ty60 Sub.rfl Sub.rfl ?sg1 (gb ?sg2)) ?_
          case sg1 => show s.Col = _; omega
          case sg2 => omega
          refine JL_step rfl rfl rfl (step_load_ptr ty60 Sub.rfl) ?_
          refine JL_stepU rfl rfl (step_store_box ty60 Sub.rfl Sub.rfl (by first | exact Sel.take (Sel.none _) | exact Sel.skip (Sel.take (Sel.none _)) | exact Sel.skip (Sel.skip (Sel.take (Sel.none _))) | exact Sel.skip (Sel.skip (Sel.skip (Sel.take (Sel.none _)))) | exact Sel.skip (Sel.skip (Sel.skip (Sel.skip (Sel.take (Sel.none _))))))) fun _ => ?_
          refine JL_step rfl rfl rfl (step_assign Sub.rfl) ?_
          refine JL_nil ?_
          refine J_ret ?_
          have hs : sideV s n at_ facts = (nth (nth facts (nth at_ s.Var.toNat).toNat).Row s.Col.toNat, true, false) := by unfold sideV; rw [if_neg hc1, if_neg (by omega), if_neg (by omega), if_neg (by omega)]
          refine K_lsub (LSub.cons (by first | exact Sel.take (Sel.none _) | exact Sel.skip (Sel.take (Sel.none _)) | exact Sel.skip (Sel.skip (Sel.take (Sel.none _))) | exact Sel.skip (Sel.skip (Sel.skip (Sel.take (Sel.none _)))) | exact Sel.skip (Sel.skip (Sel.skip (Sel.skip (Sel.take (Sel.none _)))))) SPs.rfl (LSub.cons (by first | exact Sel.take (Sel.none _) | exact Sel.skip (Sel.take (Sel.none _)) | exact Sel.skip (Sel.skip (Sel.take (Sel.none _))) | exact Sel.skip (Sel.skip (Sel.skip (Sel.take (Sel.none _)))) | exact Sel.skip (Sel.skip (Sel.skip (Sel.skip (Sel.take (Sel.none _)))))) (box_eq (y := l || (sideV s n at_ facts).2.2) (by rw [hs]; simp)) LSub.nil)) ?_
          refine K_ret2' (rv := .cell 6 60) (rv' := .tmp 7) rfl () (Sel.take (Sel.skip Sel.nil)) (.cell ty60 Sub.rfl (Sel.take (Sel.none _)) Sub.rfl) (.tmp Sub.rfl) (Frz.sub Sub.rfl) (Frz.sub Sub.rfl) (Sub.of_eq ?_)
          rw [hs]; rfl
theorem holds_spec (t : GTest) (n : Int) (facts : List GFact) (at_ : List Int) (hb : InB at_ facts.length) : Fun1 Tryz.prog 81 [rTest.ty t, tV (.int .i64 n), tSl rFact facts, tSl rInt at_] (tV (.bool (holdsV t n facts at_))) := by
  refine Spec.enter Tryz.func81 rfl rfl fun h0 w0 fr0 => ?_
  refine J_seq ?_
  refine J_region ?_
  refine JL_step rfl rfl rfl (step_box (R := rTest) Sub.rfl) ?_
  refine JL_step rfl rfl rfl (step_box (R := rInt) Sub.rfl) ?_
  refine JL_step rfl rfl rfl (step_box (R := (rSl rFact)) Sub.rfl) ?_
  refine JL_step rfl rfl rfl (step_box (R := (rSl rInt)) Sub.rfl) ?_
  refine JL_step rfl rfl rfl (step_assign Sub.rfl) ?_
  refine JL_nil ?_
  refine J_seq ?_
  refine J_region ?_
  refine JL_stepX rfl rfl rfl (step_alloc (fun w => Tryz.zeroValue4 w) zr4) fun v9 => ?_
  refine JL_stepU rfl rfl (step_store_box ty4 Sub.rfl Sub.rfl (by first | exact Sel.take (Sel.none _) | exact Sel.skip (Sel.take (Sel.none _)) | exact Sel.skip (Sel.skip (Sel.take (Sel.none _))) | exact Sel.skip (Sel.skip (Sel.skip (Sel.take (Sel.none _)))) | exact Sel.skip (Sel.skip (Sel.skip (Sel.skip (Sel.take (Sel.none _))))))) fun _ => ?_
  refine JL_nil ?_
  refine J_seq ?_
  refine J_region ?_
  refine JL_step rfl rfl rfl (step_makeFunc (As := [_, _, _, _]) ⟨Sub.rfl, Sub.rfl, Sub.rfl, Sub.rfl, trivial⟩) ?_
  refine JL_step rfl rfl rfl (step_assign Sub.rfl) ?_
  refine JL_nil ?_
  refine J_seq ?_
  refine J_region ?_
  refine JL_step rfl rfl rfl (step_move Sub.rfl) ?_
  refine JL_step rfl rfl rfl (step_fieldAddr so66 Sub.rfl rfl) ?_
  refine JL_step rfl rfl rfl (step_load_ptr ty62 Sub.rfl) ?_
  refine JL_stepX rfl rfl rfl (step_callv (aT := [_]) Sub.rfl (by first | exact Sel.take (Sel.none _) | exact Sel.skip (Sel.take (Sel.none _)) | exact Sel.skip (Sel.skip (Sel.take (Sel.none _))) | exact Sel.skip (Sel.skip (Sel.skip (Sel.take (Sel.none _)))) | exact Sel.skip (Sel.skip (Sel.skip (Sel.skip (Sel.take (Sel.none _)))))) (holds1_spec _ _ _ _ _ _ hb) ⟨Sub.rfl, trivial⟩ Tryz.call104) fun v20 => ?_
  refine JL_step rfl rfl rfl (step_move Sub.rfl) ?_
  refine JL_step rfl rfl rfl (step_extract Sub.rfl rfl) ?_
  refine JL_step rfl rfl rfl (step_extract Sub.rfl rfl) ?_
  refine JL_stepX rfl rfl rfl (step_alloc (fun w => Tryz.zeroValue60 w) zr60) fun v11 => ?_
  refine JL_stepU rfl rfl (step_store_box ty60 Sub.rfl Sub.rfl (by first | exact Sel.take (Sel.none _) | exact Sel.skip (Sel.take (Sel.none _)) | exact Sel.skip (Sel.skip (Sel.take (Sel.none _))) | exact Sel.skip (Sel.skip (Sel.skip (Sel.take (Sel.none _)))) | exact Sel.skip (Sel.skip (Sel.skip (Sel.skip (Sel.take (Sel.none _))))))) fun _ => ?_
  refine JL_freeze (t := 11) (Sel.take (Sel.none _)) Frz.box ?_
  refine JL_step rfl rfl rfl (step_assign Sub.rfl) ?_
  refine JL_nil ?_
  refine J_seq ?_
  refine J_region ?_
  refine JL_step rfl rfl rfl (step_move Sub.rfl) ?_
  refine JL_step rfl rfl rfl (step_fieldAddr so66 Sub.rfl rfl) ?_
  refine JL_step rfl rfl rfl (step_load_ptr ty62 Sub.rfl) ?_
  refine JL_stepX rfl rfl rfl (step_callv (aT := [_]) Sub.rfl (by first | exact Sel.take (Sel.none _) | exact Sel.skip (Sel.take (Sel.none _)) | exact Sel.skip (Sel.skip (Sel.take (Sel.none _))) | exact Sel.skip (Sel.skip (Sel.skip (Sel.take (Sel.none _)))) | exact Sel.skip (Sel.skip (Sel.skip (Sel.skip (Sel.take (Sel.none _)))))) (holds1_spec _ _ _ _ _ _ hb) ⟨Sub.rfl, trivial⟩ Tryz.call104) fun v27 => ?_
  refine JL_step rfl rfl rfl (step_move Sub.rfl) ?_
  refine JL_step rfl rfl rfl (step_extract Sub.rfl rfl) ?_
  refine JL_step rfl rfl rfl (step_extract Sub.rfl rfl) ?_
  refine JL_stepX rfl rfl rfl (step_alloc (fun w => Tryz.zeroValue60 w) zr60) fun v13 => ?_
  refine JL_stepU rfl rfl (step_store_box ty60 Sub.rfl Sub.rfl (by first | exact Sel.take (Sel.none _) | exact Sel.skip (Sel.take (Sel.none _)) | exact Sel.skip (Sel.skip (Sel.take (Sel.none _))) | exact Sel.skip (Sel.skip (Sel.skip (Sel.take (Sel.none _)))) | exact Sel.skip (Sel.skip (Sel.skip (Sel.skip (Sel.take (Sel.none _))))))) fun _ => ?_
  refine JL_freeze (t := 13) (Sel.take (Sel.none _)) Frz.box ?_
  refine JL_step rfl rfl rfl (step_assign Sub.rfl) ?_
  refine JL_nil ?_
  refine J_seq ?_
  refine J_region ?_
  refine JL_step rfl rfl rfl (step_move Sub.rfl) ?_
  refine JL_step rfl rfl rfl (step_move Sub.rfl) ?_
  refine JL_stepG rfl rfl rfl (Gd.plain Sub.rfl) rfl rfl (fun hw => step_move Sub.rfl) ?_
  refine JL_step rfl rfl rfl (step_pick_and Sub.rfl Sub.rfl) ?_
  refine JL_step rfl rfl rfl (step_move Sub.rfl) ?_
  refine JL_stepG rfl rfl rfl (Gd.plain Sub.rfl) rfl rfl (fun hw => step_load_box ty4 Sub.rfl (by first | exact Sel.take (Sel.none _) | exact Sel.skip (Sel.take (Sel.none _)) | exact Sel.skip (Sel.skip (Sel.take (Sel.none _))) | exact Sel.skip (Sel.skip (Sel.skip (Sel.take (Sel.none _)))) | exact Sel.skip (Sel.skip (Sel.skip (Sel.skip (Sel.take (Sel.none _))))))) ?_
  refine JL_stepG rfl rfl rfl (Gd.plain Sub.rfl) rfl rfl (fun hw => step_move (Sub.w hw)) ?_
  refine JL_stepG rfl rfl rfl (Gd.nest Sub.rfl) rfl rfl (fun hw => step_load_ptr ty60 Sub.rfl) ?_
  refine JL_stepG rfl rfl rfl (Gd.nest Sub.rfl) rfl rfl (fun hw => step_fieldAddr so66 Sub.rfl rfl) ?_
  refine JL_stepG rfl rfl rfl (Gd.nest Sub.rfl) rfl rfl (fun hw => step_load_ptr ty3 (Sub.w hw)) ?_
  refine JL_stepG rfl rfl rfl (Gd.nest Sub.rfl) rfl rfl (fun hw => step_load_ptr ty60 Sub.rfl) ?_
  refine JL_stepG rfl rfl rfl (Gd.nest Sub.rfl) rfl rfl (fun hw => step_fieldAddr so66 Sub.rfl rfl) ?_
  refine JL_stepG rfl rfl rfl (Gd.nest Sub.rfl) rfl rfl (fun hw => step_load_ptr ty3 (Sub.w hw)) ?_
  refine JL_stepG rfl rfl rfl (Gd.nest Sub.rfl) rfl rfl (fun hw => step_call0 (Test_spec _ _ _ _) ⟨(Sub.w hw), (Sub.w hw), (Sub.w hw), (Sub.w hw), trivial⟩ Tryz.call45) ?_
  refine JL_stepG rfl rfl rfl (Gd.plain Sub.rfl) rfl rfl (fun hw => step_pick_or (Sub.w hw) (Sub.ww hw)) ?_
  refine JL_step rfl rfl rfl (step_pick_and Sub.rfl Sub.rfl) ?_
  refine JL_step rfl rfl rfl (step_assign Sub.rfl) ?_
  refine JL_nil ?_
  refine J_ret ?_
  refine K_drop (Sel.all _) ?_
  refine K_ret1 (t := 8) rfl () ?_
  refine Sub.bool ?_
  simp [holdsV, Bool.and_assoc]
end Lg
