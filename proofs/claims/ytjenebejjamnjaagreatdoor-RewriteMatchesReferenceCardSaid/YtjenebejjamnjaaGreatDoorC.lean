/- The types of the program as representations; walks of values, texts and lists. -/
import Derived.Test.YtjenebejjamnjaaGreatDoorB
import Derived.Test.YtjenebejjamnjaaGreatDoorProg
import Derived.Tactics
import Derived.Tactics2
import Derived.Defers
import Derived.Laws.Pointers
import Derived.Laws.LoneSync
import Derived.Laws.NewBlocks
import Derived.RegionTactic
import Derived.RegionCalls
import Derived.ChangeAlike
import Derived.Ground.NamesProg
import Derived.Shelf.Strconv.Itoa3
import Derived.Laws.StructEq
set_option linter.unusedVariables false
set_option linter.unusedSimpArgs false
set_option linter.unusedSectionVars false
namespace Lg
open Go Go.Proofs Go.Proofs.Tryz
theorem ty3 : TyOf Tryz.prog 3 rInt := ⟨fun w => Tryz.isAgg3 w, fun w => Tryz.sizeOf3 w⟩
theorem zr3 : ∀ h, (rInt.ty 0).p h (Value.int .i64 0) := fun _ => rfl
theorem el3 : ElT Tryz.prog 3 rInt 8 0 := ⟨ty3, by decide, Tryz.t3, (Value.int .i64 0), by kernel_rfl, by kernel_rfl, by kernel_rfl, by kernel_rfl, zr3⟩
theorem ty4 : TyOf Tryz.prog 4 rBool := ⟨fun w => Tryz.isAgg4 w, fun w => Tryz.sizeOf4 w⟩
theorem zr4 : ∀ h, (rBool.ty false).p h (Value.bool false) := fun _ => rfl
theorem el4 : ElT Tryz.prog 4 rBool 1 false := ⟨ty4, by decide, Tryz.t4, (Value.bool false), by kernel_rfl, by kernel_rfl, by kernel_rfl, by kernel_rfl, zr4⟩
theorem ty5 : TyOf Tryz.prog 5 rU8 := ⟨fun w => Tryz.isAgg5 w, fun w => Tryz.sizeOf5 w⟩
theorem zr5 : ∀ h, (rU8.ty 0).p h (Value.int .u8 0) := fun _ => rfl
theorem el5 : ElT Tryz.prog 5 rU8 1 0 := ⟨ty5, by decide, Tryz.t5, (Value.int .u8 0), by kernel_rfl, by kernel_rfl, by kernel_rfl, by kernel_rfl, zr5⟩
theorem ty9 : TyOf Tryz.prog 9 rStr := ⟨fun w => Tryz.isAgg9 w, fun w => Tryz.sizeOf9 w⟩
theorem zr9 : ∀ h, (rStr.ty ⟨#[]⟩).p h (Value.string ⟨#[]⟩) := fun _ => rfl
theorem el9 : ElT Tryz.prog 9 rStr 16 ⟨#[]⟩ := ⟨ty9, by decide, Tryz.t9, (Value.string ⟨#[]⟩), by kernel_rfl, by kernel_rfl, by kernel_rfl, by kernel_rfl, zr9⟩
structure GValue where
  Kind : Int
  N : Int
  Text : ByteArray
def zValue : GValue := { Kind := 0, N := 0, Text := ⟨#[]⟩ }
instance : Inhabited GValue := ⟨zValue⟩
def fsValue : List (SF GValue) := [⟨Int, 3, rInt, GValue.Kind⟩, ⟨Int, 3, rInt, GValue.N⟩, ⟨ByteArray, 9, rStr, GValue.Text⟩]
abbrev rValue : Rp GValue := rStruct fsValue
theorem ty58 : TyOf Tryz.prog 58 rValue := ⟨fun w => Tryz.isAgg58 w, fun w => Tryz.sizeOf58 w⟩
theorem so58 : StructOf Tryz.prog 58 fsValue := ⟨⟨_, Tryz.underlying58, ⟨rfl, rfl, ty3, by decide, ⟨rfl, rfl, ty3, by decide, ⟨rfl, rfl, ty9, by decide, trivial⟩⟩⟩⟩, ty58⟩
theorem zr58 : ∀ h, (rValue.ty zValue).p h (.agg #[Value.int .i64 0, Value.int .i64 0, Value.string ⟨#[]⟩]) := fun _ => ⟨_, ⟨[Value.int .i64 0], _, rfl, rfl, ⟨[Value.int .i64 0], _, rfl, rfl, ⟨[Value.string ⟨#[]⟩], _, rfl, rfl, rfl⟩⟩⟩, rfl⟩
theorem el58 : ElT Tryz.prog 58 rValue 32 zValue := ⟨ty58, by decide, Tryz.t58, (.agg #[Value.int .i64 0, Value.int .i64 0, Value.string ⟨#[]⟩]), by kernel_rfl, by kernel_rfl, by kernel_rfl, by kernel_rfl, zr58⟩
theorem ty22 : TyOf Tryz.prog 22 (rSl rValue) := ⟨fun w => Tryz.isAgg22 w, fun w => Tryz.sizeOf22 w⟩
theorem ty27 : TyOf Tryz.prog 27 (rSl rInt) := ⟨fun w => Tryz.isAgg27 w, fun w => Tryz.sizeOf27 w⟩
theorem ty27V : TyOf Tryz.prog 27 rV := ⟨fun w => Tryz.isAgg27 w, fun w => Tryz.sizeOf27 w⟩
theorem zr27 : ∀ h, ((rSl rInt).ty []).p h (Value.slice none 0 0) := fun _ => ⟨none, ⟨0, Nat.le_refl _⟩, rfl, fun q => absurd rfl q⟩
theorem el27 : ElT Tryz.prog 27 (rSl rInt) 24 [] := ⟨ty27, by decide, Tryz.t27, (Value.slice none 0 0), by kernel_rfl, by kernel_rfl, by kernel_rfl, by kernel_rfl, zr27⟩
structure GAtom where
  Table : Int
  Cols : List Int
  Terms : List Int
  Key : Int
def zAtom : GAtom := { Table := 0, Cols := [], Terms := [], Key := 0 }
instance : Inhabited GAtom := ⟨zAtom⟩
def fsAtom : List (SF GAtom) := [⟨Int, 3, rInt, GAtom.Table⟩, ⟨List Int, 27, (rSl rInt), GAtom.Cols⟩, ⟨List Int, 27, (rSl rInt), GAtom.Terms⟩, ⟨Int, 3, rInt, GAtom.Key⟩]
abbrev rAtom : Rp GAtom := rStruct fsAtom
theorem ty47 : TyOf Tryz.prog 47 rAtom := ⟨fun w => Tryz.isAgg47 w, fun w => Tryz.sizeOf47 w⟩
theorem so47 : StructOf Tryz.prog 47 fsAtom := ⟨⟨_, Tryz.underlying47, ⟨rfl, rfl, ty3, by decide, ⟨rfl, rfl, ty27, by decide, ⟨rfl, rfl, ty27, by decide, ⟨rfl, rfl, ty3, by decide, trivial⟩⟩⟩⟩⟩, ty47⟩
theorem zr47 : ∀ h, (rAtom.ty zAtom).p h (.agg #[Value.int .i64 0, Value.slice none 0 0, Value.slice none 0 0, Value.int .i64 0]) := fun _ => ⟨_, ⟨[Value.int .i64 0], _, rfl, rfl, ⟨[Value.slice none 0 0], _, rfl, ⟨_, rfl, none, ⟨0, Nat.le_refl _⟩, rfl, fun q => absurd rfl q⟩, ⟨[Value.slice none 0 0], _, rfl, ⟨_, rfl, none, ⟨0, Nat.le_refl _⟩, rfl, fun q => absurd rfl q⟩, ⟨[Value.int .i64 0], _, rfl, rfl, rfl⟩⟩⟩⟩, rfl⟩
theorem el47 : ElT Tryz.prog 47 rAtom 64 zAtom := ⟨ty47, by decide, Tryz.t47, (.agg #[Value.int .i64 0, Value.slice none 0 0, Value.slice none 0 0, Value.int .i64 0]), by kernel_rfl, by kernel_rfl, by kernel_rfl, by kernel_rfl, zr47⟩
theorem ty23 : TyOf Tryz.prog 23 (rSl rAtom) := ⟨fun w => Tryz.isAgg23 w, fun w => Tryz.sizeOf23 w⟩
theorem ty23V : TyOf Tryz.prog 23 rV := ⟨fun w => Tryz.isAgg23 w, fun w => Tryz.sizeOf23 w⟩
structure GConj where
  Vars : Int
  Consts : List GValue
  Atoms : List GAtom
def zConj : GConj := { Vars := 0, Consts := [], Atoms := [] }
instance : Inhabited GConj := ⟨zConj⟩
def fsConj : List (SF GConj) := [⟨Int, 3, rInt, GConj.Vars⟩, ⟨List GValue, 22, (rSl rValue), GConj.Consts⟩, ⟨List GAtom, 23, (rSl rAtom), GConj.Atoms⟩]
abbrev rConj : Rp GConj := rStruct fsConj
theorem ty25 : TyOf Tryz.prog 25 rConj := ⟨fun w => Tryz.isAgg25 w, fun w => Tryz.sizeOf25 w⟩
theorem so25 : StructOf Tryz.prog 25 fsConj := ⟨⟨_, Tryz.underlying25, ⟨rfl, rfl, ty3, by decide, ⟨rfl, rfl, ty22, by decide, ⟨rfl, rfl, ty23, by decide, trivial⟩⟩⟩⟩, ty25⟩
theorem zr25 : ∀ h, (rConj.ty zConj).p h (.agg #[Value.int .i64 0, Value.slice none 0 0, Value.slice none 0 0]) := fun _ => ⟨_, ⟨[Value.int .i64 0], _, rfl, rfl, ⟨[Value.slice none 0 0], _, rfl, ⟨_, rfl, none, ⟨0, Nat.le_refl _⟩, rfl, fun q => absurd rfl q⟩, ⟨[Value.slice none 0 0], _, rfl, ⟨_, rfl, none, ⟨0, Nat.le_refl _⟩, rfl, fun q => absurd rfl q⟩, rfl⟩⟩⟩, rfl⟩
structure GFact where
  Table : Int
  Entity : Int
  Variant : Int
  Row : List GValue
  Cost : Int
  From : List Int
def zFact : GFact := { Table := 0, Entity := 0, Variant := 0, Row := [], Cost := 0, From := [] }
instance : Inhabited GFact := ⟨zFact⟩
def fsFact : List (SF GFact) := [⟨Int, 3, rInt, GFact.Table⟩, ⟨Int, 3, rInt, GFact.Entity⟩, ⟨Int, 3, rInt, GFact.Variant⟩, ⟨List GValue, 22, (rSl rValue), GFact.Row⟩, ⟨Int, 3, rInt, GFact.Cost⟩, ⟨List Int, 27, (rSl rInt), GFact.From⟩]
abbrev rFact : Rp GFact := rStruct fsFact
theorem ty45 : TyOf Tryz.prog 45 rFact := ⟨fun w => Tryz.isAgg45 w, fun w => Tryz.sizeOf45 w⟩
theorem so45 : StructOf Tryz.prog 45 fsFact := ⟨⟨_, Tryz.underlying45, ⟨rfl, rfl, ty3, by decide, ⟨rfl, rfl, ty3, by decide, ⟨rfl, rfl, ty3, by decide, ⟨rfl, rfl, ty22, by decide, ⟨rfl, rfl, ty3, by decide, ⟨rfl, rfl, ty27, by decide, trivial⟩⟩⟩⟩⟩⟩⟩, ty45⟩
theorem zr45 : ∀ h, (rFact.ty zFact).p h (.agg #[Value.int .i64 0, Value.int .i64 0, Value.int .i64 0, Value.slice none 0 0, Value.int .i64 0, Value.slice none 0 0]) := fun _ => ⟨_, ⟨[Value.int .i64 0], _, rfl, rfl, ⟨[Value.int .i64 0], _, rfl, rfl, ⟨[Value.int .i64 0], _, rfl, rfl, ⟨[Value.slice none 0 0], _, rfl, ⟨_, rfl, none, ⟨0, Nat.le_refl _⟩, rfl, fun q => absurd rfl q⟩, ⟨[Value.int .i64 0], _, rfl, rfl, ⟨[Value.slice none 0 0], _, rfl, ⟨_, rfl, none, ⟨0, Nat.le_refl _⟩, rfl, fun q => absurd rfl q⟩, rfl⟩⟩⟩⟩⟩⟩, rfl⟩
theorem el45 : ElT Tryz.prog 45 rFact 80 zFact := ⟨ty45, by decide, Tryz.t45, (.agg #[Value.int .i64 0, Value.int .i64 0, Value.int .i64 0, Value.slice none 0 0, Value.int .i64 0, Value.slice none 0 0]), by kernel_rfl, by kernel_rfl, by kernel_rfl, by kernel_rfl, zr45⟩
theorem ty26 : TyOf Tryz.prog 26 (rSl rFact) := ⟨fun w => Tryz.isAgg26 w, fun w => Tryz.sizeOf26 w⟩
theorem ty28 : TyOf Tryz.prog 28 (rSl (rSl rInt)) := ⟨fun w => Tryz.isAgg28 w, fun w => Tryz.sizeOf28 w⟩
structure GGraph where
  N : Int
  Cost : List Int
  Edges : List (List Int)
def zGraph : GGraph := { N := 0, Cost := [], Edges := [] }
instance : Inhabited GGraph := ⟨zGraph⟩
def fsGraph : List (SF GGraph) := [⟨Int, 3, rInt, GGraph.N⟩, ⟨List Int, 27, (rSl rInt), GGraph.Cost⟩, ⟨List (List Int), 28, (rSl (rSl rInt)), GGraph.Edges⟩]
abbrev rGraph : Rp GGraph := rStruct fsGraph
theorem ty30 : TyOf Tryz.prog 30 rGraph := ⟨fun w => Tryz.isAgg30 w, fun w => Tryz.sizeOf30 w⟩
theorem so30 : StructOf Tryz.prog 30 fsGraph := ⟨⟨_, Tryz.underlying30, ⟨rfl, rfl, ty3, by decide, ⟨rfl, rfl, ty27, by decide, ⟨rfl, rfl, ty28, by decide, trivial⟩⟩⟩⟩, ty30⟩
theorem zr30 : ∀ h, (rGraph.ty zGraph).p h (.agg #[Value.int .i64 0, Value.slice none 0 0, Value.slice none 0 0]) := fun _ => ⟨_, ⟨[Value.int .i64 0], _, rfl, rfl, ⟨[Value.slice none 0 0], _, rfl, ⟨_, rfl, none, ⟨0, Nat.le_refl _⟩, rfl, fun q => absurd rfl q⟩, ⟨[Value.slice none 0 0], _, rfl, ⟨_, rfl, none, ⟨0, Nat.le_refl _⟩, rfl, fun q => absurd rfl q⟩, rfl⟩⟩⟩, rfl⟩
theorem ty40V : TyOf Tryz.prog 40 rV := ⟨fun w => Tryz.isAgg40 w, fun w => Tryz.sizeOf40 w⟩
theorem ty69 : TyOf Tryz.prog 69 (rOM kvS (rSl rFact)) := ⟨fun w => Tryz.isAgg69 w, fun w => Tryz.sizeOf69 w⟩
theorem zr69 : ∀ h, ((rOM kvS (rSl rFact)).ty none).p h (Value.map none) := fun _ => rfl
theorem el69 : ElT Tryz.prog 69 (rOM kvS (rSl rFact)) 8 none := ⟨ty69, by decide, Tryz.t69, (Value.map none), by kernel_rfl, by kernel_rfl, by kernel_rfl, by kernel_rfl, zr69⟩
theorem ty66 : TyOf Tryz.prog 66 (rSl (rOM kvS (rSl rFact))) := ⟨fun w => Tryz.isAgg66 w, fun w => Tryz.sizeOf66 w⟩
theorem ty66V : TyOf Tryz.prog 66 rV := ⟨fun w => Tryz.isAgg66 w, fun w => Tryz.sizeOf66 w⟩
structure Grewriting where
  q : GConj
  order : List GAtom
  blocks : List ((Option (List (ByteArray × List GFact))))
def zrewriting : Grewriting := { q := zConj, order := [], blocks := [] }
instance : Inhabited Grewriting := ⟨zrewriting⟩
def fsrewriting : List (SF Grewriting) := [⟨GConj, 25, rConj, Grewriting.q⟩, ⟨List GAtom, 23, (rSl rAtom), Grewriting.order⟩, ⟨List ((Option (List (ByteArray × List GFact)))), 66, (rSl (rOM kvS (rSl rFact))), Grewriting.blocks⟩]
abbrev rrewriting : Rp Grewriting := rStruct fsrewriting
theorem ty68 : TyOf Tryz.prog 68 rrewriting := ⟨fun w => Tryz.isAgg68 w, fun w => Tryz.sizeOf68 w⟩
theorem so68 : StructOf Tryz.prog 68 fsrewriting := ⟨⟨_, Tryz.underlying68, ⟨rfl, rfl, ty25, by decide, ⟨rfl, rfl, ty23, by decide, ⟨rfl, rfl, ty66, by decide, trivial⟩⟩⟩⟩, ty68⟩
theorem ty95 : TyOf Tryz.prog 95 (rSl rBool) := ⟨fun w => Tryz.isAgg95 w, fun w => Tryz.sizeOf95 w⟩
theorem zr95 : ∀ h, ((rSl rBool).ty []).p h (Value.slice none 0 0) := fun _ => ⟨none, ⟨0, Nat.le_refl _⟩, rfl, fun q => absurd rfl q⟩
theorem el95 : ElT Tryz.prog 95 (rSl rBool) 24 [] := ⟨ty95, by decide, Tryz.t95, (Value.slice none 0 0), by kernel_rfl, by kernel_rfl, by kernel_rfl, by kernel_rfl, zr95⟩
theorem ty92 : TyOf Tryz.prog 92 (rSl (rSl rBool)) := ⟨fun w => Tryz.isAgg92 w, fun w => Tryz.sizeOf92 w⟩
theorem zr92 : ∀ h, ((rSl (rSl rBool)).ty []).p h (Value.slice none 0 0) := fun _ => ⟨none, ⟨0, Nat.le_refl _⟩, rfl, fun q => absurd rfl q⟩
theorem ty78 : TyOf Tryz.prog 78 rV := ⟨fun w => Tryz.isAgg78 w, fun w => Tryz.sizeOf78 w⟩
structure Gcomparison where
  op : Int
  holds : Value
def zcomparison : Gcomparison := { op := 0, holds := Value.nilFunc }
instance : Inhabited Gcomparison := ⟨zcomparison⟩
def fscomparison : List (SF Gcomparison) := [⟨Int, 3, rInt, Gcomparison.op⟩, ⟨Value, 78, rV, Gcomparison.holds⟩]
abbrev rcomparison : Rp Gcomparison := rStruct fscomparison
theorem ty150 : TyOf Tryz.prog 150 rcomparison := ⟨fun w => Tryz.isAgg150 w, fun w => Tryz.sizeOf150 w⟩
theorem so150 : StructOf Tryz.prog 150 fscomparison := ⟨⟨_, Tryz.underlying150, ⟨rfl, rfl, ty3, by decide, ⟨rfl, rfl, ty78, by decide, trivial⟩⟩⟩, ty150⟩
theorem zr150 : ∀ h, (rcomparison.ty zcomparison).p h (.agg #[Value.int .i64 0, Value.nilFunc]) := fun _ => ⟨_, ⟨[Value.int .i64 0], _, rfl, rfl, ⟨[Value.nilFunc], _, rfl, ⟨rfl, rfl⟩, rfl⟩⟩, rfl⟩
theorem el150 : ElT Tryz.prog 150 rcomparison 16 zcomparison := ⟨ty150, by decide, Tryz.t150, (.agg #[Value.int .i64 0, Value.nilFunc]), by kernel_rfl, by kernel_rfl, by kernel_rfl, by kernel_rfl, zr150⟩
open Go Go.Proofs Go.Proofs.Tryz
theorem rDisable (w : World) : (callFunc 216 #[]).run prog w = .ok (.value (.tuple #[])) w := run_call_mark0 func216 (by kernel_rfl) (by kernel_rfl) (by kernel_rfl) .disable (by kernel_rfl) w
theorem rEnable (w : World) : (callFunc 218 #[]).run prog w = .ok (.value (.tuple #[])) w := run_call_mark0 func218 (by kernel_rfl) (by kernel_rfl) (by kernel_rfl) .enable (by kernel_rfl) w
theorem rAcquire (a : Addr) (w : World) : (callFunc 219 #[.pointer (some a)]).run prog w = .ok (.value (.tuple #[])) w := run_call_marked func219 (by kernel_rfl) (by kernel_rfl) (by kernel_rfl) .acquire (by kernel_rfl) a w
theorem rMerge (a : Addr) (w : World) : (callFunc 221 #[.pointer (some a)]).run prog w = .ok (.value (.tuple #[])) w := run_call_marked func221 (by kernel_rfl) (by kernel_rfl) (by kernel_rfl) .releaseMerge (by kernel_rfl) a w
theorem store_deferred (a : Addr) (x : Value) (u : FrameMode) (w : World) (hc : w.cell? a = some x) (hz : w.frozen? a = false) :
    CallsD prog 193 #[.pointer (some a), .bool true] u w fun e u' w' => u' = u ∧ (e = .returned (.tuple #[]) ∧ w' = w.drew.setCell a (.int .u32 1)) := by
  have hc' : w.drew.cell? a = some x := by go_simp
  have hz' : w.drew.frozen? a = false := by go_simp
  have hst := run_call_store (P := prog) func207 (by kernel_rfl) (by kernel_rfl) (by kernel_rfl) (by kernel_rfl) (k := .u32) (y := 1) hc' hz'
  go_enter_d func193, Tryz.ntmps193
  go_wp2
  go_region_calls
  all_goals (go_end0; exact ⟨rfl, rfl⟩)
set_option maxRecDepth 100000 in
set_option maxHeartbeats 1600000 in
theorem unlock_deferred (a : Addr) (u : FrameMode) (w : World) (hc : w.cell? a = some (.int .i32 1)) (hz : w.frozen? a = false) :
    CallsD prog 192 #[.pointer (some a)] u w fun e u' w' => u' = u ∧ (e = .returned (.tuple #[]) ∧ w' = w.setCell a (.int .i32 0)) := by
  have hd := rDisable
  have he := rEnable
  have hr := rMerge
  have hadd := run_call_add (P := prog) func222 (by kernel_rfl) (by kernel_rfl) (by kernel_rfl) .i32 (by kernel_rfl) (y := -1) (s := 0) hc hz (by simp [go_sem]; rfl)
  have hcv := run_convert_to_unsafe (P := prog) (src := 259) (dst := 165) underlying259 underlying165 (by kernel_rfl) hc
  go_enter_d func192, Tryz.ntmps192
  go_wp2
  go_end0
  go_wp2
  go_end0
  exact ⟨rfl, rfl⟩
set_option maxRecDepth 100000 in
set_option maxHeartbeats 1600000 in
theorem lock_free (a : Addr) (w : World) (hc : w.cell? a = some (.int .i32 0)) (hz : w.frozen? a = false) :
    Calls prog 191 #[.pointer (some a)] w fun e w' => e = .returned (.tuple #[]) ∧ w' = w.setCell a (.int .i32 1) := by
  have hd := rDisable
  have he := rEnable
  have ha := rAcquire
  have hcas := run_call_cas_hit (P := prog) func217 (by kernel_rfl) (by kernel_rfl) (by kernel_rfl) .i32 (by kernel_rfl) (y := 1) hc hz
  have hc' : (w.setCell a (.int .i32 1)).cell? a = some (.int .i32 1) := World.cell?_setCell_same w a _ hc
  have hcv := run_convert_to_unsafe (P := prog) (src := 259) (dst := 165) underlying259 underlying165 (by kernel_rfl) hc'
  go_enter func191, Tryz.ntmps191
  go_wp2
  first | go_end0 | (simp only [Exit.inBlock, Exit.then]; refine bodyPost_ret (results_none rfl _ _ _) rfl ?_) | refine bodyPost_ret (results_none rfl _ _ _) rfl ?_
  go_wp2
  go_end0
  exact ⟨rfl, rfl⟩
open Go Go.Proofs Go.Proofs.Tryz
set_option maxRecDepth 100000 in
set_option maxHeartbeats 1600000 in
theorem slow_any (b : Nat) (w : World) (Q : World → Prop) (h0 : w.cell? ⟨b, 0, none⟩ = some (.int .u32 0)) (h1 : w.cell? ⟨b, 1, none⟩ = some (.int .i32 0)) (f0 : w.frozen? ⟨b, 0, none⟩ = false) (f1 : w.frozen? ⟨b, 1, none⟩ = false)
    (hf : Calls prog 138 #[.pointer (some ⟨b, 0, none⟩)] (w.setCell ⟨b, 1, none⟩ (.int .i32 1)) fun e w2 => e = .returned (.tuple #[]) ∧ Q w2 ∧ w2.cell? ⟨b, 0, none⟩ = some (.int .u32 0) ∧ w2.cell? ⟨b, 1, none⟩ = some (.int .i32 1) ∧ w2.frozen? ⟨b, 0, none⟩ = false ∧ w2.frozen? ⟨b, 1, none⟩ = false) :
    Calls prog 167 #[.pointer (some ⟨b, 0, none⟩), .func (.func 138) #[.pointer (some ⟨b, 0, none⟩)] #[]] w fun e w' => e = .returned (.tuple #[]) ∧ ∃ w2, Q w2 ∧ w' = (w2.drew.setCell ⟨b, 0, none⟩ (.int .u32 1)).setCell ⟨b, 1, none⟩ (.int .i32 0) := by
  have hl := run_call_load (P := prog) func190 (by kernel_rfl) (by kernel_rfl) (by kernel_rfl) .u32 (by kernel_rfl) (w := w.setCell ⟨b, 1, none⟩ (.int .i32 1)) (a := ⟨b, 0, none⟩) (x := 0) ((World.cell?_setCell_other _ ⟨b, 1, none⟩ ⟨b, 0, none⟩ _ (by simp)).trans h0)
  have hnot : ∀ (x : Bool) (w : World), (Op.unary .not (.bool x)).run prog w = .ok (.bool (!x)) w := fun _ _ => rfl
  go_enter_defers func167, Tryz.ntmps167
  go_wp2_with (first | (go_at_call 191; refine (lock_free ⟨b, 1, none⟩ _ (by first | exact h1 | go_simp) (by first | exact f1 | go_simp)).mono ?_; rintro e w' ⟨rfl, rfl⟩) | (go_at_call 138; refine hf.mono ?_; rintro e w2 ⟨rfl, hq, g0, g1, z0, z1⟩) | (go_at_call 166; go_in))
  refine leaves_cons (f := 193) (args := #[.pointer (some ⟨b, 0, none⟩), .bool true]) (by simp) (by simp [go_sem]) ?_
  refine (store_deferred ⟨b, 0, none⟩ (.int .u32 0) .returning _ g0 z0).mono ?_
  rintro e u' w'' ⟨rfl, rfl, rfl⟩
  refine leaves_cons (f := 192) (args := #[.pointer (some ⟨b, 1, none⟩)]) (by simp [settle]) (by simp [go_sem]) ?_
  refine (unlock_deferred ⟨b, 1, none⟩ _ _ ?_ (by simp [z1])).mono ?_
  · refine (World.cell?_setCell_other _ ⟨b, 0, none⟩ ⟨b, 1, none⟩ _ (by simp)).trans ?_
    rw [World.cell?_drew]; exact g1
  rintro e u' w'' ⟨rfl, rfl, rfl⟩
  simp only [Leaves, settle]
  simp [results, Tryz.results167]
  exact ⟨w2, hq, rfl⟩
set_option maxRecDepth 100000 in
set_option maxHeartbeats 1600000 in
/-- Once.Do, for the first time. -/
theorem do_first (b : Nat) (w : World) (Q : World → Prop) (h0 : w.cell? ⟨b, 0, none⟩ = some (.int .u32 0)) (h1 : w.cell? ⟨b, 1, none⟩ = some (.int .i32 0)) (f0 : w.frozen? ⟨b, 0, none⟩ = false) (f1 : w.frozen? ⟨b, 1, none⟩ = false)
    (hf : Calls prog 138 #[.pointer (some ⟨b, 0, none⟩)] (w.setCell ⟨b, 1, none⟩ (.int .i32 1)) fun e w2 => e = .returned (.tuple #[]) ∧ Q w2 ∧ w2.cell? ⟨b, 0, none⟩ = some (.int .u32 0) ∧ w2.cell? ⟨b, 1, none⟩ = some (.int .i32 1) ∧ w2.frozen? ⟨b, 0, none⟩ = false ∧ w2.frozen? ⟨b, 1, none⟩ = false) :
    Calls prog 137 #[.pointer (some ⟨b, 0, none⟩), .func (.func 138) #[.pointer (some ⟨b, 0, none⟩)] #[]] w fun e w' => e = .returned (.tuple #[]) ∧ ∃ w2, Q w2 ∧ w' = (w2.drew.setCell ⟨b, 0, none⟩ (.int .u32 1)).setCell ⟨b, 1, none⟩ (.int .i32 0) := by
  have hl := run_call_load (P := prog) func190 (by kernel_rfl) (by kernel_rfl) (by kernel_rfl) .u32 (by kernel_rfl) h0
  have hnot : ∀ (x : Bool) (w : World), (Op.unary .not (.bool x)).run prog w = .ok (.bool (!x)) w := fun _ _ => rfl
  go_enter func137, Tryz.ntmps137
  go_wp2_with (first | (go_at_call 167; refine (slow_any b w Q h0 h1 f0 f1 hf).mono ?_; rintro e w' ⟨rfl, w2, hq, rfl⟩) | (go_at_call 166; go_in))
  go_end0
  exact ⟨rfl, w2, hq, rfl⟩
open Go Go.Proofs Go.Proofs.Tryz
/-- What a byte is replaced by; nil where it stays. -/
def tRep : List Int → Ty
  | [] => tV (.slice none 0 0)
  | x :: xs => tSl rU8 (x :: xs)
theorem tRep_one : ∀ {xs : List Int} {h : PH} {v : Value}, (tRep xs).p h v → v.oneCell' = true
  | [], h, v, a => by have a : v = .slice none 0 0 := a; subst a; rfl
  | x :: xs, h, v, a => by obtain ⟨ao, cap, rfl, _⟩ := a; rfl
theorem tRep_of {xs : List Int} (h : xs ≠ []) : tRep xs = tSl rU8 xs := by
  cases xs with
  | nil => exact absurd rfl h
  | cons x xs => rfl
def rRep : Rp (List Int) where
  k := 1
  agg := false
  rel := fun h o cs => ∃ u, cs = [u] ∧ (tRep o).p h u
  ty := tRep
  len := by rintro _ _ _ ⟨u, rfl, _⟩; rfl
  one := by rintro _ _ _ ⟨u, rfl, h⟩ c hc; simp at hc; subst hc; exact tRep_one h
  mono := fun {h h' o cs} l ⟨u, e, a⟩ => ⟨u, e, (tRep o).mono l a⟩
  scalar := fun _ => rfl
  iff := by
    intro h x v
    constructor
    · intro h1; exact ⟨[v], ⟨v, rfl, h1⟩, rfl⟩
    · rintro ⟨cs, ⟨u, rfl, h1⟩, rfl⟩; exact h1
theorem ty40R : TyOf prog 40 rRep := ⟨fun w => isAgg40 w, fun w => sizeOf40 w⟩
theorem ty227 : TyOf prog 227 (rArr 256 rRep) := ⟨fun w => isAgg227 w, fun w => sizeOf227 w⟩
theorem ty167 : TyOf prog 167 (rSl rStr) := ⟨fun w => isAgg167 w, fun w => sizeOf167 w⟩
theorem ty167V : TyOf prog 167 rV := ⟨fun w => isAgg167 w, fun w => sizeOf167 w⟩
abbrev fsB1 : List (SF (List (List Int) × Value)) := [⟨List (List Int), 227, rArr 256 rRep, Prod.fst⟩, ⟨Value, 167, rV, Prod.snd⟩]
abbrev fsB2 : List (SF (List (List Int) × List ByteArray)) := [⟨List (List Int), 227, rArr 256 rRep, Prod.fst⟩, ⟨List ByteArray, 167, rSl rStr, Prod.snd⟩]
theorem ty229a : TyOf prog 229 (rStruct fsB1) := ⟨fun w => isAgg229 w, fun w => sizeOf229 w⟩
theorem ty229 : TyOf prog 229 (rStruct fsB2) := ⟨fun w => isAgg229 w, fun w => sizeOf229 w⟩
theorem so229a : StructOf prog 229 fsB1 := ⟨⟨_, underlying229, ⟨rfl, rfl, ty227, by decide, ⟨rfl, rfl, ty167V, by decide, trivial⟩⟩⟩, ty229a⟩
theorem so229 : StructOf prog 229 fsB2 := ⟨⟨_, underlying229, ⟨rfl, rfl, ty227, by decide, ⟨rfl, rfl, ty167, by decide, trivial⟩⟩⟩, ty229⟩
abbrev nilsR : List (List Int) := List.replicate 256 []
theorem relAll_nils {h : PH} : ∀ n, relAll rRep h (List.replicate n []) (List.replicate n (Value.slice none 0 0))
  | 0 => rfl
  | n + 1 => ⟨[.slice none 0 0], List.replicate n (.slice none 0 0), rfl, ⟨_, rfl, rfl⟩, relAll_nils n⟩
theorem zr229 : ∀ h, ((rStruct fsB1).ty (nilsR, .slice none 0 0)).p h (.agg Tryz.zeroCells229) := fun h =>
  ⟨List.replicate 256 (.slice none 0 0) ++ [.slice none 0 0], ⟨_, _, rfl, ⟨by simp, relAll_nils 256⟩, [.slice none 0 0], [], rfl, ⟨rfl, rfl⟩, rfl⟩, by kernel_rfl⟩
/-- The object behind the interface. -/
def replE (l : List ByteArray) : Nat → List (List Int)
  | 0 => nilsR
  | n + 1 => (replE l n).set (nth (bytesOf (nth l (l.length - 2 - 2 * n))) 0).toNat (bytesOf (nth l (l.length - 2 - 2 * n + 1)))
def toRepE (l : List ByteArray) (n : Nat) : List ByteArray := (List.range n).map fun i => nth l (l.length - 2 - 2 * i)
abbrev six : List ByteArray := [⟨#[34]⟩, ⟨#[92, 34]⟩, ⟨#[92]⟩, ⟨#[92, 92]⟩, ⟨#[10]⟩, ⟨#[92, 110]⟩]
def tRI : Ty := tIf 230 (tPtr (rStruct fsB2) (replE six 3, toRepE six 3))
def tOI : Bool → Ty
  | false => tV .nilIface
  | true => tRI
theorem tOI_one : ∀ {o : Bool} {h : PH} {v : Value}, (tOI o).p h v → v.oneCell' = true
  | false, h, v, a => by have a : v = .nilIface := a; subst a; rfl
  | true, h, v, a => by obtain ⟨u, rfl, b, off, cs, rfl, _⟩ := a; rfl
def rOI : Rp Bool where
  k := 1
  agg := false
  rel := fun h o cs => ∃ u, cs = [u] ∧ (tOI o).p h u
  ty := tOI
  len := by rintro _ _ _ ⟨u, rfl, _⟩; rfl
  one := by rintro _ _ _ ⟨u, rfl, h⟩ c hc; simp at hc; subst hc; exact tOI_one h
  mono := fun {h h' o cs} l ⟨u, e, a⟩ => ⟨u, e, (tOI o).mono l a⟩
  scalar := fun _ => rfl
  iff := by
    intro h x v
    constructor
    · intro h1; exact ⟨[v], ⟨v, rfl, h1⟩, rfl⟩
    · rintro ⟨cs, ⟨u, rfl, h1⟩, rfl⟩; exact h1
theorem ty181 : TyOf prog 181 rOI := ⟨fun w => isAgg181 w, fun w => sizeOf181 w⟩
theorem ty179 : TyOf prog 179 (rCells 3) := ⟨fun w => isAgg179 w, fun w => sizeOf179 w⟩
abbrev GRpl := List Value × Bool × List ByteArray
abbrev fsRpl : List (SF GRpl) := [⟨List Value, 179, rCells 3, fun x => x.1⟩, ⟨Bool, 181, rOI, fun x => x.2.1⟩, ⟨List ByteArray, 167, rSl rStr, fun x => x.2.2⟩]
theorem ty183 : TyOf prog 183 (rStruct fsRpl) := ⟨fun w => isAgg183 w, fun w => sizeOf183 w⟩
theorem so183 : StructOf prog 183 fsRpl := ⟨⟨_, underlying183, ⟨rfl, rfl, ty179, by decide, ⟨rfl, rfl, ty181, by decide, ⟨rfl, rfl, ty167, by decide, trivial⟩⟩⟩⟩, ty183⟩
abbrev once (d m : Int) : List Value := [.int .u32 d, .int .i32 m, .int .u32 0]
open Go Go.Proofs Go.Proofs.Tryz
theorem rpl_cells {h : PH} {y : GRpl} {cs : List Value} (r : SF.rel h y fsRpl cs) : ∃ u v, cs = y.1 ++ [u, v] ∧ y.1.length = 3 := by
  obtain ⟨c0, _, rfl, ⟨rfl, hl, _⟩, c1, _, rfl, ⟨u, rfl, _⟩, c2, _, rfl, r2, rz⟩ := r
  obtain ⟨v, rfl, _⟩ := r2
  rw [show _ = [] from rz]
  exact ⟨u, v, by simp, hl⟩
theorem rpl_set {h : PH} {o o' : List Value} {a : Bool} {l : List ByteArray} {cs : List Value} (r : SF.rel h (o, a, l) fsRpl cs) (hl : o'.length = 3) (ho : ∀ c ∈ o', c.oneCell' = true) : SF.rel h (o', a, l) fsRpl (o' ++ cs.drop 3) := by
  obtain ⟨c0, c1, rfl, ⟨e0, h0, _⟩, r1⟩ := r
  have e0 : c0 = o := e0
  subst e0
  refine ⟨o', c1, ?_, ⟨rfl, hl, ho⟩, r1⟩
  rw [List.drop_left' h0]
theorem setCell_heap {w : World} {b i : Nat} {c : Array Value} {t : Nat} {v : Value} (hb : w.heap[b]? = some (.cells c t (0, 0))) : (w.setCell ⟨b, i, none⟩ v).heap[b]? = some (.cells (c.setIfInBounds i v) t (0, 0)) := by
  simpa using heap_setCell_same w b i c t v hb
theorem Sep.setCell {h m r : PH} {w : World} {b i : Nat} {c : Array Value} {t : Nat} {v : Value} (d : (PH.one b (.cells c t (0, 0))).disj m) (s : Sep h ((PH.one b (.cells c t (0, 0))).join m) r w) :
    Sep h ((PH.one b (.cells (c.setIfInBounds i v) t (0, 0))).join m) r (w.setCell ⟨b, i, none⟩ v) :=
  Sep.write d s (fun b' hne _ => heap_setCell_other w ⟨b, i, none⟩ b' v hne) (setCell_heap s.heap_own)
theorem Same.setCell (w : World) (a : Addr) (v : Value) : Same w (w.setCell a v) := ⟨rfl, rfl, rfl⟩
theorem Do_spec (b : Nat) (hB : Spec (X := Unit) prog 138 [tAt b 0] [box b 183 (rStruct fsRpl) (once 0 1, false, six)] (fun _ => tTup []) (fun _ => [box b 183 (rStruct fsRpl) (once 0 1, true, [])])) :
    Spec (X := Unit) prog 137 [tAt b 0, tV (.func (.func 138) #[.pointer (some ⟨b, 0, none⟩)] #[])] [box b 183 (rStruct fsRpl) (once 0 0, false, six)] (fun _ => tTup []) (fun _ => [box b 183 (rStruct fsRpl) (once 1 0, true, [])]) := by
  intro vs h m r w ha sp st
  match vs, ha with
  | [u1, u2], ⟨a1, a2, _⟩ =>
  have a1 : u1 = .pointer (some ⟨b, 0, none⟩) := a1
  have a2 : u2 = .func (.func 138) #[.pointer (some ⟨b, 0, none⟩)] #[] := a2
  subst a1; subst a2
  obtain ⟨m1, m2, d12, rfl, ⟨cs, rel, rfl⟩, e2⟩ := st
  have e2 : m2 = PH.emp := e2
  subst e2
  obtain ⟨u, v, hcs, _⟩ := rpl_cells rel
  have hcs : cs = [.int .u32 0, .int .i32 0, .int .u32 0, u, v] := hcs
  subst hcs
  have hb := sp.heap_own
  have hcell : ∀ i, w.cell? ⟨b, i, none⟩ = ([.int .u32 0, .int .i32 0, .int .u32 0, u, v] : List Value).toArray[i]? := fun i => inw_cells (h := h) hb i
  have hfz : ∀ i, w.frozen? ⟨b, i, none⟩ = false := fun i => by simp [World.frozen?, hb]
  have s1 := sp.setCell (i := 1) (v := .int .i32 1) d12
  have rel1 := rpl_set (o' := once 0 1) rel rfl (by intro c hc; simp at hc; rcases hc with rfl | rfl | rfl <;> rfl)
  refine (do_first b w (fun w2 => ∃ h' m', HL h w h' w2 ∧ Sep h' m' r w2 ∧ (stars [box b 183 (rStruct fsRpl) (once 0 1, true, [])]).p h' m') (hcell 0) (hcell 1) (hfz 0) (hfz 1) ?_).mono ?_
  · refine (hB [.pointer (some ⟨b, 0, none⟩)] h _ r _ ⟨rfl, trivial⟩ s1 ⟨_, PH.emp, PH.disj_emp _, rfl, ⟨_, rel1, rfl⟩, rfl⟩).mono ?_
    rintro e w2 ⟨x, v2, h', m', rfl, l, s2, st2, ⟨vs, hv, hva⟩⟩
    have hvs : v2 = .tuple #[] := by
      cases vs with
      | nil => exact hv
      | cons a b => exact hva.elim
    subst hvs
    have st2' := st2
    obtain ⟨m3, m4, d34, rfl, ⟨cs2, relb, rfl⟩, e4⟩ := st2
    have e4 : m4 = PH.emp := e4
    subst e4
    obtain ⟨u', v', hcs2, _⟩ := rpl_cells relb
    have hcs2 : cs2 = [.int .u32 0, .int .i32 1, .int .u32 0, u', v'] := hcs2
    subst hcs2
    have hb2 := s2.heap_own
    have hc2 : ∀ i, w2.cell? ⟨b, i, none⟩ = ([.int .u32 0, .int .i32 1, .int .u32 0, u', v'] : List Value).toArray[i]? := fun i => inw_cells (h := h') hb2 i
    have hz2 : ∀ i, w2.frozen? ⟨b, i, none⟩ = false := fun i => by simp [World.frozen?, hb2]
    exact ⟨rfl, ⟨h', _, ⟨l.1, (Same.setCell w ⟨b, 1, none⟩ _).trans l.2⟩, s2, st2'⟩, hc2 0, hc2 1, hz2 0, hz2 1⟩
  · rintro e w' ⟨rfl, w2, ⟨h', m', l, s2, st2⟩, rfl⟩
    obtain ⟨m3, m4, d34, rfl, ⟨cs2, relb, rfl⟩, e4⟩ := st2
    have e4 : m4 = PH.emp := e4
    subst e4
    obtain ⟨u', v', hcs2, _⟩ := rpl_cells relb
    have hcs2 : cs2 = [.int .u32 0, .int .i32 1, .int .u32 0, u', v'] := hcs2
    subst hcs2
    have t1 := (s2.drew).setCell (i := 0) (v := .int .u32 1) d34
    have t2 := t1.setCell (i := 1) (v := .int .i32 0) (PH.disj_emp _)
    have rel2 := rpl_set (o' := once 1 0) relb rfl (by intro c hc; simp at hc; rcases hc with rfl | rfl | rfl <;> rfl)
    exact ⟨(), .tuple #[], h', _, rfl, ⟨l.1, l.2.trans ((Same.drew _).trans ((Same.setCell _ _ _).trans (Same.setCell _ _ _)))⟩, t2, ⟨_, PH.emp, PH.disj_emp _, rfl, ⟨_, rel2, rfl⟩, rfl⟩, ⟨[], rfl, trivial⟩⟩
open Go Go.Proofs Go.Proofs.Tryz
theorem step_eql_nilV {C : Cx} {E : Env} {L : List SP} {d : Option Nat} {ty : Nat} {pos : String} {af : Array Edge} {g : Option (Nat × Bool)} {T U e : Nat} {x : Operand} (hu : C.P.underlying T = some (.slice e)) (hx : Sub (opTy E x) (tV (.slice none 0 0))) :
    Step1 C ⟨d, .binOp .eql T x (.const (.slice none 0 0)) U, ty, pos, af, g⟩ E L (tV (.bool true)) :=
  Step.of_same (by intro c h; cases h) fun a w h hw fr => by
    have hv : a.eval x = .slice none 0 0 := fr.get hx
    refine ⟨.bool true, ?_, rfl⟩
    have he : ∀ w, (eqGuard .eql T x (.const (.slice none 0 0)) (a.eval x) (.slice none 0 0)).run C.P w = .ok () w := by intro w; rw [hv]; simp [eqGuard]
    have h2 : a.eval (.const (.slice none 0 0)) = .slice none 0 0 := rfl
    have hr := Lib.run_eql_slice_nil (P := C.P) w T e none 0 0 0 0 hu
    rw [hv] at he
    simp [execOp, hv, h2, Sem.run_bind, he, hr]
theorem bsr_eq : ∀ c, c < 3 → nth (replE six c) (nth (bytesOf (nth six (6 - 2 - 2 * c))) 0).toNat = [] := by decide
theorem key_str : ∀ c, c < 3 → ofBytes [nth (bytesOf (nth six (6 - 2 - 2 * c))) 0] = nth six (6 - 2 - 2 * c) := by decide
theorem val_ne : ∀ c, c < 3 → bytesOf (nth six (6 - 2 - 2 * c + 1)) ≠ [] := by decide
theorem z229 (w : World) : (zeroValue 229).run prog w = .ok (.agg ([List.replicate 256 (.slice none 0 0), [.slice none 0 0]].flatten.toArray)) w := by
  rw [zeroValue229 w]
  exact congrArg (fun c => Result.ok (Value.agg c) w) (by kernel_rfl)
theorem oldnew_one : ∀ i, i < 6 → i % 2 = 0 → (nth six i).size = 1 := by decide
theorem oldnew_two : ∀ i, i < 6 → i % 2 = 0 → (nth six (i + 1)).size = 2 := by decide
theorem NewReplacer_spec (l : List ByteArray) (hl : l.length ≤ 1000000) (he : l.length % 2 = 0) : Spec (X := Nat) prog 109 [tSl rStr l] ([]) (fun b => tAt b 0) (fun b => [box b 183 (rStruct fsRpl) (once 0 0, false, l)]) := by
 refine Spec.enter func109 rfl rfl fun h0 w0 fr0 => ?_
 refine Jr (Ja rfl (JL_nil (J_seq (Jr (Jm rfl ?_)))))
 refine Js rfl (step_len_sl underlying167 Sr) ?_
 refine Js rfl (step_rem Sr Sr zG (by decide)) ?_
 refine Js rfl (step_eql Sr Sr) (JL_nil ?_)
 refine J_cond Sr (fun h6 => ?_) (fun h6 => ?_)
 ·
  try simp only [NF] at h6
  exfalso; have h6 : (l.length : Int) % 2 = 1 := h6; omega
 try simp only [NF] at h6
 refine J_skip (J_seq ?_)
 refine K_lsub (LSub.nilown (e := 9) (R := rStr)) ?_
 refine J_region (Jm rfl ?_)
 refine Jx rfl (step_append underlying167 el9 (Sub.rV rfl) Sr zS (by simp; omega) (by simp; omega)) fun v9 => ?_
 refine JL_freeze (t := 9) (A' := tSl rStr l) (Sel.take (Sel.none _)) (Frz.own' (by simp)) ?_
 refine Js rfl (step_build (x := ((once 0 0, false, l) : GRpl)) (zs := [once 0 0, [.nilIface], [.slice none 0 0]]) so183 (fun w => zeroValue183 w) ⟨Sr, trivial⟩ ⟨fun _ => ⟨rfl, rfl, by intro c hc; simp at hc; rcases hc with rfl | rfl | rfl <;> rfl⟩, fun _ => ⟨_, rfl, rfl⟩, ⟨Sr, rfl⟩, trivial⟩) ?_
 refine Jx rfl (step_box_own (R := rStruct fsRpl) Sr) fun b11 => ?_
 refine Ja rfl (JL_nil (J_ret ?_))
 refine K_ret1 (t := 2) rfl b11 Sr
set_option maxHeartbeats 4000000 in
theorem build_spec (b : Nat) : Spec (X := Unit) prog 168 [tAt b 0] ([box b 183 (rStruct fsRpl) (once 0 1, false, six)]) (fun _ => tRI) (fun _ => [box b 183 (rStruct fsRpl) (once 0 1, false, six)]) := by
 refine Spec.enter func168 rfl rfl fun h0 w0 fr0 => ?_
 refine Jr (Ja rfl (JL_nil (Jr (Jm rfl (Js rfl (step_nilCheck Sr) ?_)))))
 refine Js rfl (step_fieldAddr_own so183 Sr rfl) ?_
 refine Js rfl (step_load_fld ty167 Sr rfl zS) ?_
 refine Ja rfl (JL_nil (J_seq (Jr (Jm rfl (Js rfl (step_len_sl underlying167 Sr) ?_)))))
 refine Js rfl (step_eql Sr Sr) (Jm rfl (Jg rfl Sr rfl (fun hw => step_move Sr) ?_))
 refine Jg rfl Sr rfl (fun hw => step_indexAddr_sl (i := 0) underlying167 ty9 (Sub.w hw) Sr (by rfl) (gb (by have hwq := hw; (try simp only [beqB_t, beqB_f, NF] at hwq); decide))) ?_
 refine Jg rfl Sr rfl (fun hw => step_load_ptr ty9 (Sub.w hw)) (Jg rfl Sr rfl (fun hw => step_len_str underlying9 (Sub.w hw)) (Jg rfl Sr rfl (fun hw => step_gtr (Sub.w hw) Sr) (Js rfl (step_pick_and Sr Sr) (JL_nil ?_))))
 refine J_cond Sr (fun h28 => ?_) (fun h28 => ?_)
 ·
  try simp only [NF] at h28
  exfalso; simp at h28
 try simp only [NF] at h28
 refine J_skip (Jr (Ja rfl (JL_nil (J_seq (Jr ?_)))))
 refine Ja rfl (JL_nil (J_block ?_))
 refine J_loopL (σ := Nat × Bool) (fun ⟨i, al⟩ => i ≤ 6 ∧ i % 2 = 0 ∧ (al = true → i = 0)) (fun ⟨i, al⟩ => upd (upd (upd env0 3 (tSl rStr six)) 4 (tV (.bool al))) 5 (tV (.int .i64 i))) (fun ⟨i, al⟩ => [box b 183 (rStruct fsRpl) (once 0 1, false, six)]) (fun ⟨i, al⟩ => 6 - i) (0, true) ⟨by omega, by omega, fun _ => rfl⟩ (.u (.u (SubE.upd Sr SubE.any))) (LSub.rfl) ?_
 rintro ⟨i, al⟩ ⟨hi, hev, hal⟩
 refine J_seq (Jr (Jm rfl (Jm rfl (Js rfl (step_len_sl underlying167 Sr) (Js rfl (step_lss Sr Sr) ?_)))))
 refine JL_nil ?_
 refine J_cond Sr (fun h40 => ?_) (fun h40 => ?_)
 ·
  try simp only [NF] at h40
  have h6 : six.length = 6 := rfl
  have hlt : i < 6 := by omega
  refine J_skip (J_seq (J_block (J_seq (Jr (Jm rfl ?_)))))
  refine Jm rfl ?_
  refine Js rfl (step_indexAddr_sl  underlying167 ty9 Sr Sr rfl (gb (by exact hlt))) ?_
  refine Jl rfl ty9 Sr (Js rfl (step_len_str underlying9 Sr) (Js rfl (step_neq Sr Sr) (JL_nil ?_)))
  refine J_cond Sr (fun h48 => ?_) (fun h48 => ?_)
  ·
   try simp only [NF] at h48
   exact absurd h48 (by have := oldnew_one i hlt hev; omega)
  try simp only [NF] at h48
  refine J_skip (Jr (Jm rfl (Jm rfl (Js rfl (step_add Sr Sr z6) ?_))))
  refine Js rfl (step_indexAddr_sl (i := (i + 1)) underlying167 ty9 Sr Sr zG (gb (by show i + 1 < 6; omega))) ?_
  refine Jl rfl ty9 Sr (Js rfl (step_len_str underlying9 Sr) (Js rfl (step_neq Sr Sr) (JL_nil ?_)))
  refine J_cond Sr (fun h58 => ?_) (fun h58 => ?_)
  ·
   try simp only [NF] at h58
   refine J_region (Ja rfl (JL_nil (J_region (Jm rfl (Js rfl (step_add Sr Sr z6) ?_)))))
   refine Ja rfl (JL_nil ?_)
   refine K_againL (σ := Nat × Bool) (s := (i, al)) (i + 2, false) zO ⟨by omega, by omega, fun q => by cases q⟩ (.u (.u (SubE.upd Sr SubE.any))) (LSub.rfl)
  try simp only [NF] at h58
  exact absurd h58 (by have := oldnew_two i hlt hev; omega)
 try simp only [NF] at h40
 have h6 : six.length = 6 := rfl
 have hge : 6 ≤ i := by omega
 refine J_exit (J_seq (Jr (Jm rfl (JL_nil ?_))))
 refine J_cond Sr (fun h59 => ?_) (fun h59 => ?_)
 ·
  try simp only [NF] at h59
  exfalso; have := hal h59; omega
 try simp only [NF] at h59
 refine J_skip (Jr (Jm rfl (Js rfl (step_len_sl underlying167 Sr) ?_)))
 refine Js rfl (step_quo Sr Sr (by decide) (by decide) z6) ?_
 refine Jx rfl (step_make0 (c := 3) underlying167 el9 Sr Sr rfl (by decide) (by decide) (by decide)) fun v94 => ?_
 refine Js rfl (step_build (x := ((nilsR, v94) : List (List Int) × Value)) (zs := [List.replicate 256 (.slice none 0 0), [.slice none 0 0]]) so229a z229 ⟨Sr, trivial⟩ ⟨fun _ => ⟨by simp, relAll_nils 256⟩, ⟨Sr, rfl⟩, trivial⟩) ?_
 refine Jx rfl (step_alloc (R := rStruct fsB1) (z := (nilsR, .slice none 0 0)) (fun w => zeroValue229 w) zr229) fun b11 => ?_
 refine Ju (step_store_box ty229a Sr Sr zS) fun _ => ?_
 refine JL_nil (J_seq (Jr (Jm rfl (Js rfl (step_len_sl underlying167 Sr) (Js rfl (step_sub Sr Sr z6) ?_)))))
 refine Ja rfl (JL_nil (J_block ?_))
 refine J_loopL (σ := Nat × Value) (fun ⟨c, v⟩ => c ≤ 3) (fun ⟨c, v⟩ => upd (upd (upd env0 3 (tSl rStr six)) 11 (tAt b11 0)) 12 (tV (.int .i64 (4 - 2 * (c : Int))))) (fun ⟨c, v⟩ => [box b11 229 (rStruct fsB1) (replE six c, v), own 9 rStr v (toRepE six c), box b 183 (rStruct fsRpl) (once 0 1, false, six)]) (fun ⟨c, v⟩ => 3 - c) (0, v94) zG (SubE.upd (Sub.int (by decide)) (.u (SubE.upd Sr SubE.any))) (LSub.cons zS (SPs.rfl) (LSub.cons zS (own_eq rfl) (LSub.cons zS (SPs.rfl) (LSub.nil)))) ?_
 rintro ⟨c, v⟩ hc
 try dsimp only at hc
 refine J_seq (Jr (Jm rfl (Js rfl (step_geq Sr Sr) (JL_nil ?_))))
 refine J_cond Sr (fun h100 => ?_) (fun h100 => ?_)
 ·
  try simp only [NF] at h100
  have hc3 : c < 3 := by omega
  have htl : (toRepE six c).length = c := by simp [toRepE]
  have hs1 := oldnew_one (6 - 2 - 2 * c) zG zG
  have hk : 0 ≤ (nth (bytesOf (nth six (6 - 2 - 2 * c))) 0) ∧ (nth (bytesOf (nth six (6 - 2 - 2 * c))) 0) < 256 := bytesOf_rng _ _ (nth_mem (by rw [bytesOf_len]; omega))
  refine J_skip (J_seq (J_block (Jr (Jm rfl (Jm rfl ?_)))))
  refine Js rfl (step_indexAddr_sl (i := (6 - 2 - 2 * c)) underlying167 ty9 Sr Sr zG (gb (by show 6 - 2 - 2 * c < 6; omega))) ?_
  refine Jl rfl ty9 Sr ?_
  refine Js rfl (step_index_str (i := 0) underlying9 Sr Sr (by rfl) zG) ?_
  refine Ja rfl (JL_nil (Jr (Jm rfl (Jm rfl (Js rfl (step_add Sr Sr z6) ?_)))))
  refine Js rfl (step_indexAddr_sl (i := (6 - 2 - 2 * c + 1)) underlying167 ty9 Sr Sr zG (gb (by show 6 - 2 - 2 * c + 1 < 6; omega))) ?_
  refine Jl rfl ty9 Sr (Ja rfl (JL_nil (J_seq (Jr (Jm rfl ?_)))))
  refine Js rfl (step_fieldAddr_own so229a Sr rfl) ?_
  refine Js rfl (step_arrIdx (o := 0) (i := (nth (bytesOf (nth six (6 - 2 - 2 * c))) 0).toNat) underlying227 (fun w => sizeOf40 w) Sr Sr zG zG) ?_
  refine Js rfl (step_load_arr (n := 256) ty40R rfl (Sub.v (by rw [Nat.zero_add])) zG zS) ?_
  refine Js rfl (step_eql_nilV underlying40 (Sub.of_eq (by show tRep (nth (replE six c) _) = _; rw [bsr_eq c hc3]; rfl))) ?_
  refine JL_nil ?_
  refine J_cond Sr (fun h117 => ?_) (fun h117 => ?_)
  ·
   try simp only [NF] at h117
   refine J_region (Js rfl (step_fieldAddr_own so229a Sr rfl) ?_)
   refine Js rfl (step_load_fld ty167V Sr rfl zS) ?_
   refine Jm rfl ?_
   refine Jx rfl (step_literal_own (ys := [_]) underlying40 el5 ⟨rfl, Sr, trivial⟩ rfl (by decide)) fun v121 => ?_
   refine Js rfl (step_convert_str underlying40 underlying5 underlying9 Sr zS) ?_
   refine JL_freeze (t := 121) (A' := tSl rU8 [(nth (bytesOf (nth six (6 - 2 - 2 * c))) 0)]) (Sel.take (Sel.none _)) Frz.own ?_
   refine Js rfl (step_literal (ys := [_]) underlying167 el9 ⟨rfl, Sr, trivial⟩ rfl (by decide)) ?_
   refine Jx rfl (step_append underlying167 el9 Sr Sr zS (by simp; omega) (by simp; omega)) fun v124 => ?_
   refine Js rfl (step_fieldAddr_own so229a Sr rfl) ?_
   refine Ju (step_store_fld (R := rV) (y := ((replE six c, v) : List (List Int) × Value)) (y' := ((replE six c, v124) : List (List Int) × Value)) ty167V Sr Sr zS ⟨rfl, fun h cs r => r, rfl, by intro g hg; cases hg⟩) fun _ => ?_
   refine JL_nil (J_region (Jm rfl (Jm rfl (Js rfl (step_convert_bytes underlying9 underlying40 underlying5 Sr) (Js rfl (step_fieldAddr_own so229a Sr rfl) ?_)))))
   refine Js rfl (step_arrIdx (o := 0) (i := (nth (bytesOf (nth six (6 - 2 - 2 * c))) 0).toNat) underlying227 (fun w => sizeOf40 w) Sr Sr zG zG) ?_
   refine Ju (step_store_arr (n := 256) (z := bytesOf (nth six (6 - 2 - 2 * c + 1))) (y' := ((replE six (c + 1), v124) : List (List Int) × Value)) ty40R rfl (Sub.v (by rw [Nat.zero_add])) zG (Sub.of_eq (tRep_of (val_ne c hc3)).symm) zS rfl (by intro f hf; simp at hf; subst hf; rfl)) fun _ => ?_
   refine JL_nil (J_region (Jm rfl (Js rfl (step_sub Sr Sr z6) (Ja rfl (JL_nil ?_)))))
   refine K_againL (σ := Nat × Value) (s := (c, v)) (c + 1, v124) zO zG (SubE.upd (Sub.int zG) (.u (SubE.upd Sr SubE.any))) (LSub.cons zS (SPs.rfl) (LSub.cons zS (own_eq (by rw [key_str c hc3]; simp [toRepE, List.range_succ])) (LSub.cons zS (SPs.rfl) (LSub.nil))))
  try simp only [NF] at h117
  exfalso; simp at h117
 try simp only [NF] at h100
 obtain rfl : c = 3 := by omega
 refine J_exit (Jr ?_)
 refine JL_freeze (t := 11) (A' := tPtr (rStruct fsB2) (replE six 3, toRepE six 3)) (Sel.take (Sel.take (Sel.none _))) (Frz.up (fun h h' cs le hv r => by
 obtain ⟨c0, _, rfl, r0, c1, _, rfl, r1, rz⟩ := r
 exact ⟨c0, _, rfl, (rArr 256 rRep).mono le r0, c1, _, rfl, ⟨_, r1.1, hv⟩, rz⟩)) ?_
 refine Js rfl (step_mkIface underlying230 (by intro m h; cases h) Sr) ?_
 refine Ja rfl (JL_nil (J_ret ?_))
 refine K_ret1 (t := 2) rfl () Sr
open Go Go.Proofs Go.Proofs.Tryz
theorem count_bytes (l : List UInt8) (c : Int) (h : 0 ≤ c ∧ c < 256) : l.count c.toNat.toUInt8 = (l.map fun b => (b.toNat : Int)).count c := by
  induction l with
  | nil => rfl
  | cons b l ih =>
    rw [List.map_cons, List.count_cons, List.count_cons, ih]
    congr 1
    have e : (b == c.toNat.toUInt8) = ((b.toNat : Int) == c) := by
      rw [Bool.eq_iff_iff, beq_iff_eq, beq_iff_eq]
      constructor
      · intro q
        subst q
        have : c.toNat.toUInt8.toNat = c.toNat := by show (UInt8.ofNat c.toNat).toNat = _; rw [UInt8.toNat_ofNat']; omega
        omega
      · intro q
        apply UInt8.toNat_inj.1
        show _ = (UInt8.ofNat c.toNat).toNat
        rw [UInt8.toNat_ofNat']; omega
    rw [e]
def extraL (l : List Int) : Nat := l.count 10 + l.count 92 + l.count 34
theorem escU_len (c : Int) : (escU c).length = 1 + extraL [c] := by
  unfold escU extraL
  by_cases h1 : c = 34
  · subst h1; rfl
  · by_cases h2 : c = 92
    · subst h2; rfl
    · by_cases h3 : c = 10
      · subst h3; rfl
      · simp [h1, h2, h3, List.count_cons]
theorem extraL_append (a b : List Int) : extraL (a ++ b) = extraL a + extraL b := by unfold extraL; rw [List.count_append, List.count_append, List.count_append]; omega
theorem extraL_le (l : List Int) : extraL l ≤ 3 * l.length := by
  unfold extraL
  have h1 := List.count_le_length (a := (10 : Int)) (l := l)
  have h2 := List.count_le_length (a := (92 : Int)) (l := l)
  have h3 := List.count_le_length (a := (34 : Int)) (l := l)
  omega
theorem escL_length : ∀ l : List Int, (escL l).length = l.length + extraL l
  | [] => rfl
  | c :: l => by
    have e : c :: l = [c] ++ l := rfl
    rw [escL_cons, List.length_append, escL_length l, escU_len, e, extraL_append]
    simp; omega
theorem escL_same : ∀ {l : List Int}, extraL l = 0 → escL l = l
  | [], _ => rfl
  | c :: l, h => by
    have e : c :: l = [c] ++ l := rfl
    rw [e, extraL_append] at h
    have h1 : escU c = [c] := by
      have h2 : extraL [c] = 0 := by omega
      unfold extraL at h2
      simp only [List.count_cons, List.count_nil] at h2
      unfold escU
      rw [if_neg, if_neg, if_neg]
      · rintro rfl; simp at h2
      · rintro rfl; simp at h2
      · rintro rfl; simp at h2
    rw [escL_cons, h1, escL_same (by omega)]; rfl
abbrev R3 : List (List Int) := replE six 3
abbrev T3 : List ByteArray := toRepE six 3
theorem r3_all : (List.range 256).all (fun c => decide (escU (c : Int) = if nth R3 c = [] then [(c : Int)] else nth R3 c) && decide (nth R3 c = [] ∨ (nth R3 c).length = 2)) = true := by kernel_rfl
theorem r3 {c : Int} (h : 0 ≤ c ∧ c < 256) : escU c = (if nth R3 c.toNat = [] then [c] else nth R3 c.toNat) ∧ (nth R3 c.toNat = [] ∨ (nth R3 c.toNat).length = 2) := by
  have := List.all_eq_true.1 r3_all c.toNat (List.mem_range.2 (by omega))
  rw [Bool.and_eq_true, decide_eq_true_eq, decide_eq_true_eq, Int.toNat_of_nonneg h.1] at this
  exact this
theorem t3_one : ∀ i, i < 3 → (nth T3 i).size = 1 := by decide
theorem t3_rep : ∀ i, i < 3 → (nth R3 (nth (bytesOf (nth T3 i)) 0).toNat).length = 2 := by decide
def sumC (l : List Int) (j : Nat) : Nat := ((List.range j).map fun i => l.count (nth (bytesOf (nth T3 i)) 0)).sum
theorem sumC_succ (l : List Int) (j : Nat) : sumC l (j + 1) = sumC l j + l.count (nth (bytesOf (nth T3 j)) 0) := by simp [sumC, List.range_succ]
theorem sumC_3 (l : List Int) : sumC l 3 = extraL l := by
  rw [sumC_succ, sumC_succ, sumC_succ]
  have e0 : nth (bytesOf (nth T3 0)) 0 = 10 := rfl
  have e1 : nth (bytesOf (nth T3 1)) 0 = 92 := rfl
  have e2 : nth (bytesOf (nth T3 2)) 0 = 34 := rfl
  rw [e0, e1, e2]; simp [sumC, extraL]
theorem ofBytes_bytesOf (s : ByteArray) : ofBytes (bytesOf s) = s := by
  have e : ∀ l : List UInt8, (l.map fun b => (b.toNat : Int)).map (fun n => UInt8.ofNat n.toNat) = l := by
    intro l
    induction l with
    | nil => rfl
    | cons b l ih => rw [List.map_cons, List.map_cons, ih]; congr 1; show UInt8.ofNat b.toNat = b; exact UInt8.ofNat_toNat
  show (⟨_⟩ : ByteArray) = s
  unfold bytesOf
  rw [e]
theorem esc_take_le (l : List Int) (i : Nat) : (escL (l.take i)).length ≤ (escL l).length := by
  conv => rhs; rw [← List.take_append_drop i l, escL_append, List.length_append]
  omega
theorem esc_take_succ {l : List Int} {i : Nat} (h : i < l.length) : escL (l.take (i + 1)) = escL (l.take i) ++ escU (nth l i) := by
  rw [takeB h, escL_append]; simp [escL]
theorem extra_take_succ {l : List Int} {i : Nat} (h : i < l.length) : extraL (l.take (i + 1)) = extraL (l.take i) + extraL [nth l i] := by
  rw [takeB h, extraL_append]
theorem fill_copy {pre ys : List Int} {N : Nat} (h : pre.length + ys.length ≤ N) : (pre ++ List.replicate (N - pre.length) (0 : Int)).take pre.length ++ ys ++ (pre ++ List.replicate (N - pre.length) (0 : Int)).drop (pre.length + ys.length) = (pre ++ ys) ++ List.replicate (N - (pre ++ ys).length) 0 := by
  rw [List.take_left, List.drop_append, List.drop_of_length_le (by omega), List.nil_append, List.drop_replicate, List.length_append]
  congr 2; omega
theorem fill_put {pre : List Int} {N : Nat} {b : Int} (h : pre.length + 1 ≤ N) : (pre ++ List.replicate (N - pre.length) (0 : Int)).set pre.length b = (pre ++ [b]) ++ List.replicate (N - (pre ++ [b]).length) 0 := by
  rw [List.set_append_right _ _ (Nat.le_refl _), Nat.sub_self]
  obtain ⟨k, hk⟩ : ∃ k, N - pre.length = k + 1 := ⟨N - pre.length - 1, by omega⟩
  rw [hk, List.replicate_succ, List.set_cons_zero, List.length_append, List.append_assoc]
  congr 2
  show _ = List.replicate (N - (pre.length + 1)) 0
  congr 1; omega
section
variable {ro : Option Nat} {N : Nat} {ds : List Deferred} {h0 : PH} {w0 : World} {r : PH} {E : Env} {L : List SP} {d : Option Nat} {ty : Nat} {pos : String} {af : Array Edge} {g : Option (Nat × Bool)}
theorem step_count {x y : Operand} {s : ByteArray} {c : Int} {ts : Array Nat} (hx : Sub (opTy E x) (tV (.string s))) (hy : Sub (opTy E y) (tV (.int .u8 c))) (hc : 0 ≤ c ∧ c < 256) :
    Step1 ⟨prog, ro, N, ds, h0, w0, r⟩ ⟨d, .call { callee := .value (.func 268), args := #[x, y], argTypes := ts }, ty, pos, af, g⟩ E L (tV (.int .i64 ((bytesOf s).count c : Nat))) :=
  Step.of_same (by intro c h; cases h) fun a w h hw fr => by
    have h1 : a.eval x = .string s := fr.get hx
    have h2 : a.eval y = .int .u8 c := fr.get hy
    refine ⟨_, ?_, rfl⟩
    have hr := run_callFunc_extern (P := prog) func268 (by kernel_rfl) (by kernel_rfl) (by kernel_rfl) (e := Extern.BytealgCount.count) (by kernel_rfl) #[.string s, .int .u8 c] w
    rw [Lib.run_countString] at hr
    have e : Lib.countByte s.data.toList c.toNat.toUInt8 = (bytesOf s).count c := count_bytes _ _ hc
    rw [e] at hr
    simp only [execOp, resolve, show a.eval (.func 268) = .func (.func 268) #[] #[] from rfl, Deferred.ofValue]
    simp [invoke, h1, h2, hr, Result.andThen]
theorem step_neq_rep {T U e : Nat} {x : Operand} {xs : List Int} (hu : prog.underlying T = some (.slice e)) (hx : Sub (opTy E x) (tRep xs)) :
    Step1 ⟨prog, ro, N, ds, h0, w0, r⟩ ⟨d, .binOp .neq T x (.const (.slice none 0 0)) U, ty, pos, af, g⟩ E L (tV (.bool (!decide (xs = [])))) :=
  Step.of_same (by intro c h; cases h) fun a w h hw fr => by
    obtain ⟨ao, len, cap, hv, hn⟩ : ∃ ao len cap, a.eval x = .slice ao len cap ∧ ao.isNone = decide (xs = []) := by
      have hp := fr.get hx
      cases xs with
      | nil => exact ⟨none, 0, 0, hp, rfl⟩
      | cons z zs =>
        obtain ⟨ao, cap, hv, H⟩ := hp
        obtain ⟨b, off, rfl, _⟩ := H (by simp)
        exact ⟨_, _, _, hv, rfl⟩
    refine ⟨.bool (!ao.isNone), ?_, by rw [hn]; rfl⟩
    have he : ∀ w, (eqGuard .neq T x (.const (.slice none 0 0)) (a.eval x) (.slice none 0 0)).run prog w = .ok () w := by intro w; rw [hv]; simp [eqGuard]
    have h2 : a.eval (.const (.slice none 0 0)) = .slice none 0 0 := rfl
    have hr := Go.run_neq_slice_nil (P := prog) w T e ao len cap hu
    rw [hv] at he
    simp [execOp, hv, h2, Sem.run_bind, he, hr]
end
theorem buildOnce_spec (b : Nat) : Spec (X := Unit) prog 138 [tAt b 0] ([box b 183 (rStruct fsRpl) (once 0 1, false, six)]) (fun _ => tTup []) (fun _ => [box b 183 (rStruct fsRpl) (once 0 1, true, [])]) := by
 refine Spec.enter func138 rfl rfl fun h0 w0 fr0 => ?_
 refine Jr (Jm rfl (Jm rfl ?_))
 refine Jx rfl (step_call zS (build_spec b) ⟨Sr, trivial⟩ call168) fun v4 => ?_
 refine Js rfl (step_nilCheck Sr) (Js rfl (step_fieldAddr_own so183 Sr rfl) ?_)
 refine Ju (step_store_fld (R := rOI) (z := true) (y := ((once 0 1, false, six) : GRpl)) (y' := ((once 0 1, true, six) : GRpl)) ty181 Sr Sr zS ⟨rfl, fun h cs r => r, rfl, by intro g hg; simp at hg; subst hg; rfl⟩) fun _ => ?_
 refine JL_nil (J_region (Jm rfl (Js rfl (step_nilCheck Sr) (Js rfl (step_fieldAddr_own so183 Sr rfl) ?_))))
 refine Ju (step_store_fld (R := rSl rStr) (z := []) (y := ((once 0 1, true, six) : GRpl)) (y' := ((once 0 1, true, []) : GRpl)) ty167 Sr Sub.nilsl zS ⟨rfl, rfl, fun h cs r => r, rfl, by intro g hg; cases hg⟩) fun _ => ?_
 refine JL_nil ?_
 refine K_end0 rfl () Sr
theorem Count1_spec (s x : ByteArray) (hx : x.size = 1) : Fun1 prog 266 [tV (.string s), tV (.string x)] (tV (.int .i64 ((bytesOf s).count (nth (bytesOf x) 0) : Nat))) := by
 refine Spec.enter func266 rfl rfl fun h0 w0 fr0 => ?_
 have hk : 0 ≤ nth (bytesOf x) 0 ∧ nth (bytesOf x) 0 < 256 := bytesOf_rng _ _ (nth_mem (by rw [bytesOf_len]; omega))
 refine Jr (Ja rfl (JL_nil (J_seq (Jr (Jm rfl ?_)))))
 refine Js rfl (step_len_str underlying9 Sr) (Js rfl (step_eql Sr Sr) (JL_nil ?_))
 refine J_cond Sr (fun h9 => ?_) (fun h9 => ?_)
 ·
  try simp only [NF] at h9
  exfalso; omega
 try simp only [NF] at h9
 refine J_skip (J_seq (Jr (Jm rfl (Js rfl (step_len_str underlying9 Sr) (Js rfl (step_eql Sr Sr) ?_)))))
 refine JL_nil ?_
 refine J_cond Sr (fun h15 => ?_) (fun h15 => ?_)
 ·
  try simp only [NF] at h15
  refine Jr (Jm rfl (Jm rfl ?_))
  refine Js rfl (step_index_str (i := 0) underlying9 Sr Sr (by rfl) zG) ?_
  refine Js rfl (step_count Sr Sr hk) (Ja rfl (JL_nil (J_ret ?_)))
  exact K_ret1 (t := 4) rfl () Sr
 try simp only [NF] at h15
 exfalso; omega
set_option maxHeartbeats 4000000 in
theorem BsrReplace_spec (s : ByteArray) (hs : s.size ≤ 1000000) : Fun1 prog 264 [tPtr (rStruct fsB2) (R3, T3), tV (.string s)] (tV (.string (ofBytes (escL (bytesOf s))))) := by
 refine Spec.enter func264 rfl rfl fun h0 w0 fr0 => ?_
 have hbl := bytesOf_len s
 have hT3 : T3.length = 3 := rfl
 have hLn := escL_length (bytesOf s)
 have hx3 := sumC_3 (bytesOf s)
 have hxl := extraL_le (bytesOf s)
 refine Jr (Ja rfl (JL_nil (Jr (Jm rfl (Js rfl (step_len_str underlying9 Sr) ?_)))))
 refine Ja rfl (JL_nil (Jr (Ja rfl (JL_nil (J_seq ?_)))))
 refine Jr (Jm rfl (Js rfl (step_nilCheckP Sr) (Js rfl (step_fieldAddr so229 Sr rfl) (Js rfl (step_load_ptr (R := rSl rStr) (y := T3) ty167 Sr) (Js rfl (step_len_sl (xs := T3) underlying167 Sr) ?_)))))
 refine Js rfl (step_mul Sr Sr z6) (Jm rfl (Js rfl (step_len_str underlying9 Sr) (Js rfl (step_leq Sr Sr) (JL_nil ?_))))
 refine J_cond Sr (fun h26 => ?_) (fun h26 => ?_)
 ·
  try simp only [NF] at h26
  refine Jr (Jm rfl (Js rfl (step_nilCheckP Sr) (Js rfl (step_fieldAddr so229 Sr rfl) (Js rfl (step_load_ptr (R := rSl rStr) (y := T3) ty167 Sr) (Js rfl (step_len_sl (xs := T3) underlying167 Sr) ?_)))))
  refine Jm rfl (JL_nil (J_block ?_))
  refine J_loopL (σ := Nat × Int × Bool) (fun ⟨j, n, al⟩ => j ≤ 3 ∧ n = (s.size : Int) + sumC (bytesOf s) j ∧ al = decide (0 < sumC (bytesOf s) j) ∧ sumC (bytesOf s) j ≤ j * s.size) (fun ⟨j, n, al⟩ => upd (upd (upd (upd (upd (upd (upd env0 0 (tPtr (rStruct fsB2) (R3, T3))) 1 (tV (.string s))) 5 (tV (.int .i64 n))) 6 (tV (.bool al))) 30 (tSl rStr T3)) 31 (tV (.int .i64 T3.length))) 32 (tV (.int .i64 j))) (fun ⟨j, n, al⟩ => []) (fun ⟨j, n, al⟩ => 3 - j) (0, (s.size : Int), false) ⟨by omega, by simp [sumC], by simp [sumC], by simp [sumC]⟩ (.u (.u (.u (.u (.u (.u (SubE.upd Sr SubE.any))))))) (LSub.rfl) ?_
  rintro ⟨j, n, al⟩ ⟨hj, hn5, hn6, hcb⟩
  refine Jr (Js rfl (step_lss Sr Sr) (JL_nil (J_seq ?_)))
  refine J_cond Sr (fun h33 => ?_) (fun h33 => ?_)
  ·
   try simp only [NF] at h33
   have hj3 : j < 3 := by omega
   have hk : 0 ≤ (nth (bytesOf (nth T3 j)) 0) ∧ (nth (bytesOf (nth T3 j)) 0) < 256 := bytesOf_rng _ _ (nth_mem (by rw [bytesOf_len, t3_one j hj3]; decide))
   have hr2 := t3_rep j hj3
   have hcb2 : j * s.size ≤ 3 * 1000000 := Nat.mul_le_mul zG hs
   have hcs := sumC_succ (bytesOf s) j
   have hcl := List.count_le_length (a := (nth (bytesOf (nth T3 j)) 0)) (l := (bytesOf s))
   refine J_skip (J_seq (J_block (Jr ?_)))
   refine Js rfl (step_indexAddr_sl  underlying167 ty9 Sr Sr rfl (gb (by show j < 3; exact hj3))) ?_
   refine Jl rfl ty9 Sr (Ja rfl (JL_nil (Jr (Jm rfl (Jm rfl ?_)))))
   refine Js rfl (step_call0 (Count1_spec s (nth T3 j) (t3_one j hj3)) ⟨Sr, Sr, trivial⟩ call266) (Ja rfl (JL_nil (Jr (Jm rfl (Js rfl (step_neq Sr Sr) ?_)))))
   refine JL_nil ?_
   refine J_cond Sr (fun h40 => ?_) (fun h40 => ?_)
   ·
    try simp only [NF] at h40
    refine J_seq ?_
    refine J_draw [⟨0, [5], true⟩, ⟨1, [9], true⟩, ⟨2, [0], true⟩, ⟨3, [8], true⟩, ⟨4, [44], true⟩, ⟨5, [43], true⟩, ⟨6, [46], true⟩, ⟨7, [45, 47], true⟩, ⟨8, [48], true⟩, ⟨9, [49], true⟩, ⟨10, [50], true⟩, ⟨11, [42, 51], true⟩, ⟨12, [41, 52], true⟩, ⟨13, [53], true⟩] rfl (by kernel_rfl) ?_
    refine Mv rfl rfl (Mv rfl rfl (Mv rfl rfl (Mv rfl rfl ?_)))
    refine Mf rfl rfl (step_index_str (i := 0) underlying9 Sr Sr (by rfl) (by rw [t3_one j hj3]; decide)) ?_
    refine Mf rfl rfl (step_nilCheckP Sr) (Mf rfl rfl (step_fieldAddr so229 Sr rfl) ?_)
    refine Mf rfl rfl (step_arrIdxP (i := (nth (bytesOf (nth T3 j)) 0).toNat) underlying227 ty40R rfl Sr Sr zG zG) ?_
    refine Mf rfl rfl (step_load_ptr ty40R Sr) ?_
    refine Mf rfl rfl (step_len_sl (xs := nth R3 (nth (bytesOf (nth T3 j)) 0).toNat) underlying40 (Sub.of_eq (tRep_of (by intro q; rw [q] at hr2; simp at hr2)))) ?_
    refine Mf rfl rfl (step_sub Sr Sr z6) ?_
    refine Mf rfl rfl (step_mul Sr Sr (by unfold in64; rw [hr2]; omega)) ?_
    refine Mf rfl rfl (step_add Sr Sr (by unfold in64; rw [hr2]; omega)) ?_
    refine Mf rfl rfl (step_assign Sr) (JM_nil (J_region (Ja rfl (JL_nil (J_region ?_)))))
    refine Js rfl (step_add Sr Sr z6) (Jm rfl (JL_nil ?_))
    refine K_againL (σ := Nat × Int × Bool) (s := (j, n, al)) (j + 1, n + (((bytesOf s).count (nth (bytesOf (nth T3 j)) 0) : Nat) : Int) * ((2 : Nat) - 1), true) zO ⟨by omega, by rw [hcs, hn5]; omega, by rw [hcs]; symm; rw [decide_eq_true_eq]; omega, by rw [hcs, Nat.add_mul]; omega⟩ (.u (.u (.u (.u (SubE.upd (Sub.int (by rw [hr2])) (.u (SubE.upd Sr SubE.any))))))) (LSub.rfl)
   try simp only [NF] at h40
   refine J_skip (J_region (Js rfl (step_add Sr Sr z6) (Jm rfl (JL_nil ?_))))
   refine K_againL (σ := Nat × Int × Bool) (s := (j, n, al)) (j + 1, n, al) zO ⟨by omega, by rw [hcs, hn5]; omega, by rw [hcs, hn6]; congr 1; simp; omega, by rw [hcs, Nat.add_mul]; omega⟩ (.u (.u (.u (.u (.u (.u (SubE.upd Sr SubE.any))))))) (LSub.rfl)
  try simp only [NF] at h33
  obtain rfl : j = 3 := by omega
  rw [hx3] at hn5 hn6
  refine J_exit (J_seq (Jr (Jm rfl (Js rfl (step_not Sr) (JL_nil ?_)))))
  refine J_cond Sr (fun h82 => ?_) (fun h82 => ?_)
  ·
   try simp only [NF] at h82
   refine Jr (Jm rfl (Ja rfl (JL_nil (J_ret ?_))))
   refine K_ret1' (rv := .tmp 4) rfl () (Sel.all _) (.tmp Sr) (Frz.sub ?_)
   refine Sub.v (congrArg Value.string ?_)
   have h0 : extraL (bytesOf s) = 0 := by rw [h82] at hn6; have := hn6.symm; rw [decide_eq_false_iff_not] at this; omega
   rw [escL_same h0, ofBytes_bytesOf]
  try simp only [NF] at h82
  refine J_skip (Jr (Jm rfl ?_))
  refine Jx rfl (step_make (n := (escL (bytesOf s)).length) underlying40 el5 Sr Sr zG zG zG) fun v85 => ?_
  refine Ja rfl (JL_nil (Jr (Ja rfl (JL_nil (J_seq ?_)))))
  refine Jr (Ja rfl (JL_nil (J_block ?_)))
  refine J_loopL (σ := Nat) (fun i => i ≤ s.size) (fun i => upd (upd (upd (upd (upd env0 0 (tPtr (rStruct fsB2) (R3, T3))) 1 (tV (.string s))) 12 (rV.ty v85)) 13 (tV (.int .i64 ((escL ((bytesOf s).take i)).length : Nat)))) 14 (tV (.int .i64 i))) (fun i => [own 5 rU8 v85 ((escL ((bytesOf s).take i)) ++ List.replicate ((escL (bytesOf s)).length - (escL ((bytesOf s).take i)).length) 0)]) (fun i => s.size - i) 0 zG (.u (SubE.upd (Sub.int (by simp [escL])) (.u (.u (SubE.upd Sr SubE.any))))) (LSub.cons zS (own_eq (by simp [escL])) (LSub.nil)) ?_
  rintro i hi
  refine J_seq (Jr (Jm rfl (Jm rfl (Js rfl (step_len_str underlying9 Sr) (Js rfl (step_lss Sr Sr) ?_)))))
  refine JL_nil ?_
  refine J_cond Sr (fun h89 => ?_) (fun h89 => ?_)
  ·
   try simp only [NF] at h89
   have hlt : i < s.size := by omega
   have hlb : i < (bytesOf s).length := by rw [bytesOf_len]; exact hlt
   have hk : 0 ≤ (nth (bytesOf s) i) ∧ (nth (bytesOf s) i) < 256 := bytesOf_rng _ _ (nth_mem hlb)
   obtain ⟨hr1, hr3⟩ := r3 hk
   have hel := escU_len (nth (bytesOf s) i)
   have hes := esc_take_succ hlb
   have hll : (escL ((bytesOf s).take (i + 1))).length = (escL ((bytesOf s).take i)).length + (escU (nth (bytesOf s) i)).length := by rw [hes, List.length_append]
   have hex := extra_take_succ hlb
   have hle := esc_take_le (bytesOf s) (i + 1)
   have hLt := escL_length ((bytesOf s).take i)
   have hxt := extraL_le ((bytesOf s).take i)
   have htl : ((bytesOf s).take i).length ≤ s.size := by rw [List.length_take, hbl]; omega
   have hLn := escL_length (bytesOf s)
   refine J_skip (J_seq (J_block (Jr (Jm rfl (Jm rfl ?_)))))
   refine Js rfl (step_index_str (i := i) underlying9 Sr Sr (by rfl) (by exact hlt)) ?_
   refine Ja rfl (JL_nil (Jr (Jm rfl (Jm rfl (Js rfl (step_nilCheckP Sr) ?_)))))
   refine Js rfl (step_fieldAddr so229 Sr rfl) ?_
   refine Js rfl (step_arrIdxP (i := (nth (bytesOf s) i).toNat) underlying227 ty40R rfl Sr Sr zG zG) ?_
   refine Jl rfl ty40R Sr (Js rfl (step_neq_rep underlying40 Sr) (JL_nil ?_))
   refine J_cond Sr (fun h101 => ?_) (fun h101 => ?_)
   ·
    try simp only [NF] at h101
    have hne : nth R3 (nth (bytesOf s) i).toNat ≠ [] := by simpa using h101
    have hr2 := hr3.resolve_left hne
    rw [if_neg hne] at hr1
    rw [hr1] at hel hes hll
    refine J_draw [⟨0, [13], true⟩, ⟨1, [12], true⟩, ⟨2, [13], true⟩, ⟨4, [0], true⟩, ⟨5, [15], true⟩, ⟨6, [106], true⟩, ⟨7, [108], true⟩, ⟨8, [107, 109], true⟩, ⟨9, [110], true⟩, ⟨3, [103, 104], false⟩, ⟨10, [105, 111], false⟩, ⟨11, [102, 112], true⟩, ⟨12, [113], true⟩] rfl (by kernel_rfl) ?_
    refine Mv rfl rfl (Mv rfl rfl (Mv rfl rfl (Mv rfl rfl (Mv rfl rfl (Mf rfl rfl (step_nilCheckP Sr) ?_)))))
    refine Mf rfl rfl (step_fieldAddr so229 Sr rfl) ?_
    refine Mf rfl rfl (step_arrIdxP (i := (nth (bytesOf s) i).toNat) underlying227 ty40R rfl Sr Sr zG zG) ?_
    refine Mf rfl rfl (step_load_ptr ty40R Sr) ?_
    refine JM_look rfl rfl rfl rfl (step_slice_tail8 (n := (escL ((bytesOf s).take i)).length) underlying40 ty5 Sr Sr rfl zS (by simp)) ?_
    refine JM_stepX rfl rfl rfl rfl (step_copy_tail8 (ys := nth R3 (nth (bytesOf s) i).toNat) underlying40 (by kernel_rfl) Sr (Sub.of_eq (tRep_of hne)) zS (by simp; omega) hne) fun v112 => ?_
    refine Mf rfl rfl (step_add Sr Sr z6) (Mf rfl rfl (step_assign Sr) (JM_nil (J_region (Jm rfl (Js rfl (step_add Sr Sr z6) ?_)))))
    refine Ja rfl (JL_nil ?_)
    refine K_againL (σ := Nat) (s := i) (i + 1) zO zG (.u (SubE.upd (Sub.int (by rw [hes, List.length_append]; omega)) (.u (.u (SubE.upd Sr SubE.any))))) (LSub.cons zS (own_eq (by rw [hes]; exact fill_copy (by rw [hes, List.length_append] at hle; exact hle))) (LSub.nil))
   try simp only [NF] at h101
   have hne : nth R3 (nth (bytesOf s) i).toNat = [] := by simpa using h101
   rw [if_pos hne] at hr1
   rw [hr1] at hel hes hll
   refine Jr (Jm rfl (Jm rfl (Jm rfl ?_)))
   refine Js rfl (step_indexAddr_own (i := (escL ((bytesOf s).take i)).length) underlying40 ty5 Sr zS Sr (by rfl) (by simp; omega)) ?_
   refine Ju (step_store_own ty5 Sr Sr zS (by simp; omega)) fun _ => ?_
   refine JL_nil (J_region (Jm rfl (Js rfl (step_add Sr Sr z6) (Ja rfl (JL_nil ?_)))))
   refine J_region (Jm rfl (Js rfl (step_add Sr Sr z6) (Ja rfl (JL_nil ?_))))
   refine K_againL (σ := Nat) (s := i) (i + 1) zO zG (.u (SubE.upd (Sub.int (by rw [hes, List.length_append]; simp)) (.u (.u (SubE.upd Sr SubE.any))))) (LSub.cons zS (own_eq (by rw [hes]; exact fill_put (by rw [hes, List.length_append] at hle; exact hle))) (LSub.nil))
  try simp only [NF] at h89
  have hie : (bytesOf s).take i = (bytesOf s) := List.take_of_length_le zG
  refine J_exit (Jr (Jm rfl ?_))
  refine Js rfl (step_convert_str underlying40 underlying5 underlying9 Sr zS) ?_
  refine Ja rfl (JL_nil (J_ret ?_))
  refine K_ret1' (rv := .tmp 4) rfl () (Sel.all _) (.tmp Sr) (Frz.sub ?_)
  refine Sub.v (congrArg Value.string ?_)
  rw [hie]; simp
 try simp only [NF] at h26
 refine Jr (Ja rfl (JL_nil (J_block ?_)))
 refine J_loopL (σ := Nat × Int × Bool) (fun ⟨i, n, al⟩ => i ≤ s.size ∧ n = (s.size : Int) + extraL ((bytesOf s).take i) ∧ al = decide (0 < extraL ((bytesOf s).take i))) (fun ⟨i, n, al⟩ => upd (upd (upd (upd (upd env0 0 (tPtr (rStruct fsB2) (R3, T3))) 1 (tV (.string s))) 5 (tV (.int .i64 n))) 6 (tV (.bool al))) 10 (tV (.int .i64 i))) (fun ⟨i, n, al⟩ => []) (fun ⟨i, n, al⟩ => s.size - i) (0, (s.size : Int), false) ⟨by omega, by simp [extraL], by simp [extraL]⟩ (.u (.u (.u (.u (SubE.upd Sr SubE.any))))) (LSub.rfl) ?_
 rintro ⟨i, n, al⟩ ⟨hi, hn5, hn6⟩
 refine J_seq (Jr (Jm rfl (Jm rfl (Js rfl (step_len_str underlying9 Sr) (Js rfl (step_lss Sr Sr) ?_)))))
 refine JL_nil ?_
 refine J_cond Sr (fun h58 => ?_) (fun h58 => ?_)
 ·
  try simp only [NF] at h58
  have hlt : i < s.size := by omega
  have hlb : i < (bytesOf s).length := by rw [bytesOf_len]; exact hlt
  have hk : 0 ≤ (nth (bytesOf s) i) ∧ (nth (bytesOf s) i) < 256 := bytesOf_rng _ _ (nth_mem hlb)
  obtain ⟨hr1, hr3⟩ := r3 hk
  have hel := escU_len (nth (bytesOf s) i)
  have hes := esc_take_succ hlb
  have hll : (escL ((bytesOf s).take (i + 1))).length = (escL ((bytesOf s).take i)).length + (escU (nth (bytesOf s) i)).length := by rw [hes, List.length_append]
  have hex := extra_take_succ hlb
  have hle := esc_take_le (bytesOf s) (i + 1)
  have hLt := escL_length ((bytesOf s).take i)
  have hxt := extraL_le ((bytesOf s).take i)
  have htl : ((bytesOf s).take i).length ≤ s.size := by rw [List.length_take, hbl]; omega
  have hLn := escL_length (bytesOf s)
  refine J_skip (J_seq (J_block (Jr (Jm rfl (Jm rfl ?_)))))
  refine Js rfl (step_index_str (i := i) underlying9 Sr Sr (by rfl) (by exact hlt)) ?_
  refine Ja rfl (JL_nil (Jr (Jm rfl (Jm rfl (Js rfl (step_nilCheckP Sr) ?_)))))
  refine Js rfl (step_fieldAddr so229 Sr rfl) ?_
  refine Js rfl (step_arrIdxP (i := (nth (bytesOf s) i).toNat) underlying227 ty40R rfl Sr Sr zG zG) ?_
  refine Jl rfl ty40R Sr (Js rfl (step_neq_rep underlying40 Sr) (JL_nil ?_))
  refine J_cond Sr (fun h70 => ?_) (fun h70 => ?_)
  ·
   try simp only [NF] at h70
   have hne : nth R3 (nth (bytesOf s) i).toNat ≠ [] := by simpa using h70
   have hr2 := hr3.resolve_left hne
   rw [if_neg hne] at hr1
   rw [hr1] at hel
   refine Jr (Jm rfl (Jm rfl (Jm rfl (Js rfl (step_nilCheckP Sr) (Js rfl (step_fieldAddr so229 Sr rfl) ?_)))))
   refine Js rfl (step_arrIdxP (i := (nth (bytesOf s) i).toNat) underlying227 ty40R rfl Sr Sr zG zG) ?_
   refine Jl rfl ty40R Sr ?_
   refine Js rfl (step_len_sl (xs := nth R3 (nth (bytesOf s) i).toNat) underlying40 (Sub.of_eq (tRep_of (by intro q; rw [q] at hr2; simp at hr2)))) ?_
   refine Js rfl (step_sub Sr Sr z6) (Js rfl (step_add Sr Sr z6) (Ja rfl (JL_nil (J_region (Ja rfl ?_)))))
   refine JL_nil (J_region (Jm rfl (Js rfl (step_add Sr Sr z6) (Ja rfl (JL_nil ?_)))))
   refine K_againL (σ := Nat × Int × Bool) (s := (i, n, al)) (i + 1, n + 1, true) zO ⟨by omega, by rw [hex, hn5]; omega, by rw [hex]; symm; rw [decide_eq_true_eq]; omega⟩ (.u (.u (SubE.upd (Sub.int (by rw [hr2]; omega)) (.u (SubE.upd Sr SubE.any))))) (LSub.rfl)
  try simp only [NF] at h70
  have hne : nth R3 (nth (bytesOf s) i).toNat = [] := by simpa using h70
  rw [if_pos hne] at hr1
  rw [hr1] at hel
  refine J_skip (J_region (Jm rfl (Js rfl (step_add Sr Sr z6) (Ja rfl (JL_nil ?_)))))
  refine K_againL (σ := Nat × Int × Bool) (s := (i, n, al)) (i + 1, n, al) zO ⟨by omega, by rw [hex, hn5]; simp at hel; omega, by rw [hex, hn6]; congr 1; simp at hel; simp; omega⟩ (.u (.u (.u (.u (SubE.upd Sr SubE.any))))) (LSub.rfl)
 try simp only [NF] at h58
 have hie : (bytesOf s).take i = (bytesOf s) := List.take_of_length_le zG
 rw [hie] at hn5 hn6
 refine J_exit (J_seq (Jr (Jm rfl (Js rfl (step_not Sr) (JL_nil ?_)))))
 refine J_cond Sr (fun h82 => ?_) (fun h82 => ?_)
 ·
  try simp only [NF] at h82
  refine Jr (Jm rfl (Ja rfl (JL_nil (J_ret ?_))))
  refine K_ret1' (rv := .tmp 4) rfl () (Sel.all _) (.tmp Sr) (Frz.sub ?_)
  refine Sub.v (congrArg Value.string ?_)
  have h0 : extraL (bytesOf s) = 0 := by rw [h82] at hn6; have := hn6.symm; rw [decide_eq_false_iff_not] at this; omega
  rw [escL_same h0, ofBytes_bytesOf]
 try simp only [NF] at h82
 refine J_skip (Jr (Jm rfl ?_))
 refine Jx rfl (step_make (n := (escL (bytesOf s)).length) underlying40 el5 Sr Sr zG zG zG) fun v85 => ?_
 refine Ja rfl (JL_nil (Jr (Ja rfl (JL_nil (J_seq ?_)))))
 refine Jr (Ja rfl (JL_nil (J_block ?_)))
 refine J_loopL (σ := Nat) (fun i => i ≤ s.size) (fun i => upd (upd (upd (upd (upd env0 0 (tPtr (rStruct fsB2) (R3, T3))) 1 (tV (.string s))) 12 (rV.ty v85)) 13 (tV (.int .i64 ((escL ((bytesOf s).take i)).length : Nat)))) 14 (tV (.int .i64 i))) (fun i => [own 5 rU8 v85 ((escL ((bytesOf s).take i)) ++ List.replicate ((escL (bytesOf s)).length - (escL ((bytesOf s).take i)).length) 0)]) (fun i => s.size - i) 0 zG (.u (SubE.upd (Sub.int (by simp [escL])) (.u (.u (SubE.upd Sr SubE.any))))) (LSub.cons zS (own_eq (by simp [escL])) (LSub.nil)) ?_
 rintro i hi
 refine J_seq (Jr (Jm rfl (Jm rfl (Js rfl (step_len_str underlying9 Sr) (Js rfl (step_lss Sr Sr) ?_)))))
 refine JL_nil ?_
 refine J_cond Sr (fun h89 => ?_) (fun h89 => ?_)
 ·
  try simp only [NF] at h89
  have hlt : i < s.size := by omega
  have hlb : i < (bytesOf s).length := by rw [bytesOf_len]; exact hlt
  have hk : 0 ≤ (nth (bytesOf s) i) ∧ (nth (bytesOf s) i) < 256 := bytesOf_rng _ _ (nth_mem hlb)
  obtain ⟨hr1, hr3⟩ := r3 hk
  have hel := escU_len (nth (bytesOf s) i)
  have hes := esc_take_succ hlb
  have hll : (escL ((bytesOf s).take (i + 1))).length = (escL ((bytesOf s).take i)).length + (escU (nth (bytesOf s) i)).length := by rw [hes, List.length_append]
  have hex := extra_take_succ hlb
  have hle := esc_take_le (bytesOf s) (i + 1)
  have hLt := escL_length ((bytesOf s).take i)
  have hxt := extraL_le ((bytesOf s).take i)
  have htl : ((bytesOf s).take i).length ≤ s.size := by rw [List.length_take, hbl]; omega
  have hLn := escL_length (bytesOf s)
  refine J_skip (J_seq (J_block (Jr (Jm rfl (Jm rfl ?_)))))
  refine Js rfl (step_index_str (i := i) underlying9 Sr Sr (by rfl) (by exact hlt)) ?_
  refine Ja rfl (JL_nil (Jr (Jm rfl (Jm rfl (Js rfl (step_nilCheckP Sr) ?_)))))
  refine Js rfl (step_fieldAddr so229 Sr rfl) ?_
  refine Js rfl (step_arrIdxP (i := (nth (bytesOf s) i).toNat) underlying227 ty40R rfl Sr Sr zG zG) ?_
  refine Jl rfl ty40R Sr (Js rfl (step_neq_rep underlying40 Sr) (JL_nil ?_))
  refine J_cond Sr (fun h101 => ?_) (fun h101 => ?_)
  ·
   try simp only [NF] at h101
   have hne : nth R3 (nth (bytesOf s) i).toNat ≠ [] := by simpa using h101
   have hr2 := hr3.resolve_left hne
   rw [if_neg hne] at hr1
   rw [hr1] at hel hes hll
   refine J_draw [⟨0, [13], true⟩, ⟨1, [12], true⟩, ⟨2, [13], true⟩, ⟨4, [0], true⟩, ⟨5, [15], true⟩, ⟨6, [106], true⟩, ⟨7, [108], true⟩, ⟨8, [107, 109], true⟩, ⟨9, [110], true⟩, ⟨3, [103, 104], false⟩, ⟨10, [105, 111], false⟩, ⟨11, [102, 112], true⟩, ⟨12, [113], true⟩] rfl (by kernel_rfl) ?_
   refine Mv rfl rfl (Mv rfl rfl (Mv rfl rfl (Mv rfl rfl (Mv rfl rfl (Mf rfl rfl (step_nilCheckP Sr) ?_)))))
   refine Mf rfl rfl (step_fieldAddr so229 Sr rfl) ?_
   refine Mf rfl rfl (step_arrIdxP (i := (nth (bytesOf s) i).toNat) underlying227 ty40R rfl Sr Sr zG zG) ?_
   refine Mf rfl rfl (step_load_ptr ty40R Sr) ?_
   refine JM_look rfl rfl rfl rfl (step_slice_tail8 (n := (escL ((bytesOf s).take i)).length) underlying40 ty5 Sr Sr rfl zS (by simp)) ?_
   refine JM_stepX rfl rfl rfl rfl (step_copy_tail8 (ys := nth R3 (nth (bytesOf s) i).toNat) underlying40 (by kernel_rfl) Sr (Sub.of_eq (tRep_of hne)) zS (by simp; omega) hne) fun v112 => ?_
   refine Mf rfl rfl (step_add Sr Sr z6) (Mf rfl rfl (step_assign Sr) (JM_nil (J_region (Jm rfl (Js rfl (step_add Sr Sr z6) ?_)))))
   refine Ja rfl (JL_nil ?_)
   refine K_againL (σ := Nat) (s := i) (i + 1) zO zG (.u (SubE.upd (Sub.int (by rw [hes, List.length_append]; omega)) (.u (.u (SubE.upd Sr SubE.any))))) (LSub.cons zS (own_eq (by rw [hes]; exact fill_copy (by rw [hes, List.length_append] at hle; exact hle))) (LSub.nil))
  try simp only [NF] at h101
  have hne : nth R3 (nth (bytesOf s) i).toNat = [] := by simpa using h101
  rw [if_pos hne] at hr1
  rw [hr1] at hel hes hll
  refine Jr (Jm rfl (Jm rfl (Jm rfl ?_)))
  refine Js rfl (step_indexAddr_own (i := (escL ((bytesOf s).take i)).length) underlying40 ty5 Sr zS Sr (by rfl) (by simp; omega)) ?_
  refine Ju (step_store_own ty5 Sr Sr zS (by simp; omega)) fun _ => ?_
  refine JL_nil (J_region (Jm rfl (Js rfl (step_add Sr Sr z6) (Ja rfl (JL_nil ?_)))))
  refine J_region (Jm rfl (Js rfl (step_add Sr Sr z6) (Ja rfl (JL_nil ?_))))
  refine K_againL (σ := Nat) (s := i) (i + 1) zO zG (.u (SubE.upd (Sub.int (by rw [hes, List.length_append]; simp)) (.u (.u (SubE.upd Sr SubE.any))))) (LSub.cons zS (own_eq (by rw [hes]; exact fill_put (by rw [hes, List.length_append] at hle; exact hle))) (LSub.nil))
 try simp only [NF] at h89
 have hie : (bytesOf s).take i = (bytesOf s) := List.take_of_length_le zG
 refine J_exit (Jr (Jm rfl ?_))
 refine Js rfl (step_convert_str underlying40 underlying5 underlying9 Sr zS) ?_
 refine Ja rfl (JL_nil (J_ret ?_))
 refine K_ret1' (rv := .tmp 4) rfl () (Sel.all _) (.tmp Sr) (Frz.sub ?_)
 refine Sub.v (congrArg Value.string ?_)
 rw [hie]; simp
end Lg
namespace Go.Proofs
open Go.Shelf
def Tryz.itoaL_ren : Go.Shelf.Ren := ⟨fun | 171 => 111 | 243 => 139 | 246 => 169 | 283 => 196 | 284 => 197 | 285 => 198 | 286 => 199 | 129 => 164 | 317 => 211 | 318 => 212 | 319 => 213 | 320 => 214 | 337 => 226 | 338 => 227 | n => n, fun | 3 => 3 | 9 => 9 | 2 => 2 | 4 => 4 | 171 => 231 | 0 => 0 | 53 => 199 | 37 => 40 | 5 => 5 | 173 => 233 | 212 => 256 | 51 => 171 | 20 => 20 | 213 => 257 | 46 => 164 | 232 => 272 | 233 => 273 | n => n, fun | 17 => 0 | 18 => 1 | 19 => 2 | n => n⟩
theorem Tryz.itoaL : Go.Proofs.LaysM.n171 Tryz.prog Tryz.itoaL_ren := {
  mixed := by kernel_rfl
  f129 := Tryz.func164.trans (congrArg some (by kernel_rfl))
  f171 := Tryz.func111.trans (congrArg some (by kernel_rfl))
  f243 := Tryz.func139.trans (congrArg some (by kernel_rfl))
  f246 := Tryz.func169.trans (congrArg some (by kernel_rfl))
  f283 := Tryz.func196.trans (congrArg some (by kernel_rfl))
  f284 := Tryz.func197.trans (congrArg some (by kernel_rfl))
  f285 := Tryz.func198.trans (congrArg some (by kernel_rfl))
  f286 := Tryz.func199.trans (congrArg some (by kernel_rfl))
  f317 := Tryz.func211.trans (congrArg some (by kernel_rfl))
  f318 := Tryz.func212.trans (congrArg some (by kernel_rfl))
  f319 := Tryz.func213.trans (congrArg some (by kernel_rfl))
  f320 := Tryz.func214.trans (congrArg some (by kernel_rfl))
  f337 := Tryz.func226.trans (congrArg some (by kernel_rfl))
  f338 := Tryz.func227.trans (congrArg some (by kernel_rfl))
  t0 := Tryz.underlying0
  a0 := Tryz.isAgg0
  z0 := Tryz.sizeOf0
  v0 := Tryz.zeroValue0
  t2 := Tryz.underlying2
  a2 := Tryz.isAgg2
  z2 := Tryz.sizeOf2
  v2 := Tryz.zeroValue2
  t3 := Tryz.underlying3
  a3 := Tryz.isAgg3
  z3 := Tryz.sizeOf3
  v3 := Tryz.zeroValue3
  t4 := Tryz.underlying4
  a4 := Tryz.isAgg4
  z4 := Tryz.sizeOf4
  v4 := Tryz.zeroValue4
  t5 := Tryz.underlying5
  a5 := Tryz.isAgg5
  z5 := Tryz.sizeOf5
  v5 := Tryz.zeroValue5
  t9 := Tryz.underlying9
  a9 := Tryz.isAgg9
  z9 := Tryz.sizeOf9
  v9 := Tryz.zeroValue9
  t20 := Tryz.underlying20
  a20 := Tryz.isAgg20
  z20 := Tryz.sizeOf20
  v20 := Tryz.zeroValue20
  t37 := Tryz.underlying40
  a37 := Tryz.isAgg40
  z37 := Tryz.sizeOf40
  v37 := Tryz.zeroValue40
  t46 := Tryz.underlying164
  a46 := Tryz.isAgg164
  z46 := Tryz.sizeOf164
  v46 := Tryz.zeroValue164
  t51 := Tryz.underlying171
  a51 := Tryz.isAgg171
  z51 := Tryz.sizeOf171
  v51 := Tryz.zeroValue171
  t53 := Tryz.underlying199
  a53 := Tryz.isAgg199
  z53 := Tryz.sizeOf199
  v53 := Tryz.zeroValue199
  t171 := Tryz.underlying231
  a171 := Tryz.isAgg231
  z171 := Tryz.sizeOf231
  v171 := Tryz.zeroValue231
  t173 := Tryz.underlying233
  a173 := Tryz.isAgg233
  z173 := Tryz.sizeOf233
  v173 := Tryz.zeroValue233
  t212 := Tryz.underlying256
  a212 := Tryz.isAgg256
  z212 := Tryz.sizeOf256
  v212 := Tryz.zeroValue256
  t213 := Tryz.underlying257
  a213 := Tryz.isAgg257
  z213 := Tryz.sizeOf257
  t232 := Tryz.underlying272
  a232 := Tryz.isAgg272
  z232 := Tryz.sizeOf272
  v232 := Tryz.zeroValue272
  t233 := Tryz.underlying273
  a233 := Tryz.isAgg273
  z233 := Tryz.sizeOf273
  v233 := Tryz.zeroValue273
  g17 := by kernel_rfl
  g18 := by kernel_rfl
  g19 := by kernel_rfl
  i0 := by kernel_rfl
  i2 := by kernel_rfl
  i3 := by kernel_rfl
  i4 := by kernel_rfl
  i5 := by kernel_rfl
  i9 := by kernel_rfl
  i20 := by kernel_rfl
  i37 := by kernel_rfl
  i46 := by kernel_rfl
  i51 := by kernel_rfl
  i53 := by kernel_rfl
  i171 := by kernel_rfl
  i173 := by kernel_rfl
  i212 := by kernel_rfl
  i232 := by kernel_rfl
  i233 := by kernel_rfl
  m17 := by kernel_rfl
  m18 := by kernel_rfl
  m19 := by kernel_rfl }
end Go.Proofs
namespace Lg
open Go Go.Proofs Go.Proofs.Tryz
theorem method_rep (b off : Nat) (w : World) : (method (prog.types.size + Made.depth) 230 (.pointer (some ⟨b, off, none⟩)) "Replace").run prog w = .ok (264, .pointer (some ⟨b, off, none⟩)) w := by
  kernel_rfl
theorem step_makeFirst {C : Cx} {E : Env} {L : List SP} {d : Option Nat} {ty : Nat} {pos : String} {af : Array Edge} {g : Option (Nat × Bool)} {f b : Nat} {x : Operand} (hx : Sub (opTy E x) (tAt b 0)) :
    Step1 C ⟨d, .makeFunc (.func f) #[x] #[], ty, pos, af, g⟩ E L (tV (.func (.func f) #[.pointer (some ⟨b, 0, none⟩)] #[])) :=
  Step.of_same (by intro c h; cases h) fun a w h hw fr => by
    have hv : a.eval x = .pointer (some ⟨b, 0, none⟩) := fr.get hx
    exact ⟨_, by simp [execOp, Instr.makeFunc, hv], rfl⟩
theorem Itoa_spec (n : Int) (h : -9223372036854775808 ≤ n ∧ n ≤ 9223372036854775807) : Fun1 prog 111 [tV (.int .i64 n)] (tV (.string (itoaB n))) := itoa_spec Tryz.itoaL (by kernel_rfl) n h.1 h.2
theorem itoaB_size {n : Int} (h : -9223372036854775808 ≤ n ∧ n ≤ 9223372036854775807) : (itoaB n).size ≤ 30 := by
  have hd : ∀ (k u : Nat), u < 10 ^ (k + 1) → Lib.nDigits u ≤ k + 1 := by
    intro k
    induction k with
    | zero => intro u hu; rw [Lib.nDigits_small (by simpa using hu)]; exact Nat.le_refl _
    | succ k ih =>
      intro u hu
      by_cases h10 : u < 10
      · rw [Lib.nDigits_small h10]; omega
      · rw [Lib.nDigits_big h10]
        have := ih (u / 10) (by rw [Nat.pow_succ] at hu; exact Nat.div_lt_of_lt_mul (by rw [Nat.mul_comm]; exact hu))
        omega
  have h2 : (itoaB n).size = (Lib.itoa n).length := by show (List.toArray _).size = _; simp
  rw [h2]
  unfold Lib.itoa
  split
  · rw [List.length_cons, Lib.decDigits_length]
    have := hd 19 n.natAbs (by have : (10 : Nat) ^ (19 + 1) = 100000000000000000000 := by decide
                               omega)
    omega
  · rw [Lib.decDigits_length]
    have := hd 19 n.toNat (by have : (10 : Nat) ^ (19 + 1) = 100000000000000000000 := by decide
                              omega)
    omega
def validV (v : GValue) : Bool :=
  if v.Kind ≠ 1 ∧ v.Text ≠ ⟨#[]⟩ then false
  else if v.Kind = 0 then decide (0 ≤ v.N) && decide (v.N ≤ 0)
  else if v.Kind = 1 then (if 200 < (v.Text.size : Int) then false else decide (0 ≤ v.N) && decide (v.N ≤ 0))
  else if v.Kind = 2 then decide (-1000000000 ≤ v.N) && decide (v.N ≤ 1000000000)
  else if v.Kind = 3 then decide (0 ≤ v.N) && decide (v.N ≤ 73048)
  else if v.Kind = 4 then decide (0 ≤ v.N) && decide (v.N ≤ 1)
  else false
theorem valid_N {v : GValue} (h : validV v = true) : -1000000000 ≤ v.N ∧ v.N ≤ 1000000000 := by
  unfold validV at h
  repeat' split at h
  all_goals simp at h
  all_goals omega
def boolB (b : Bool) : ByteArray := if b then ⟨#[116, 114, 117, 101]⟩ else ⟨#[102, 97, 108, 115, 101]⟩
def nullB : ByteArray := ⟨#[110, 117, 108, 108]⟩
def atB : ByteArray := ⟨#[64]⟩
def quoteB (s : ByteArray) : ByteArray := (⟨#[34]⟩ : ByteArray) ++ ofBytes (escL (bytesOf s)) ++ (⟨#[34]⟩ : ByteArray)
theorem ofBytes_size (cur : List Int) : (ofBytes cur).size = cur.length := by show (List.toArray _).size = _; simp
theorem valid_txt {v : GValue} (h : validV v = true) (hk : v.Kind = 1) : v.Text.size ≤ 200 := by
  unfold validV at h
  simp [hk] at h
  have := h.1; omega
/-- The text of a value. -/
def textV (v : GValue) : ByteArray :=
  if validV v = false then ⟨#[]⟩ else if v.Kind = 1 then quoteB v.Text else if v.Kind = 2 then itoaB v.N else if v.Kind = 3 then atB ++ itoaB v.N else if v.Kind = 4 then boolB (decide (v.N = 1)) else nullB
theorem quote_size (s : ByteArray) : (quoteB s).size ≤ 4 * s.size + 2 := by
  unfold quoteB
  rw [ByteArray.size_append, ByteArray.size_append, ofBytes_size, escL_length, bytesOf_len]
  have h1 := extraL_le (bytesOf s)
  rw [bytesOf_len] at h1
  have h2 : (⟨#[34]⟩ : ByteArray).size = 1 := rfl
  omega
theorem textV_size (v : GValue) : (textV v).size ≤ 1000 := by
  unfold textV
  split
  · exact Nat.zero_le _
  · rename_i hv
    have hv : validV v = true := by simpa using hv
    have hn := valid_N hv
    have := itoaB_size (n := v.N) (by omega)
    split
    · rename_i hk
      have h1 := valid_txt hv hk
      have h2 := quote_size v.Text
      omega
    · repeat' split
      · omega
      · rw [ByteArray.size_append]; have : atB.size = 1 := rfl; omega
      · unfold boolB; split <;> decide
      · decide
theorem Replace_spec (b : Nat) (s : ByteArray) (hs : s.size ≤ 1000000) : Spec (X := Unit) prog 110 [tAt b 0, tV (.string s)] ([box b 183 (rStruct fsRpl) (once 0 0, false, six)]) (fun _ => tV (.string (ofBytes (escL (bytesOf s))))) (fun _ => [box b 183 (rStruct fsRpl) (once 1 0, true, [])]) := by
 refine Spec.enter func110 rfl rfl fun h0 w0 fr0 => ?_
 refine Jr (Ja rfl (JL_nil (Jr (Jm rfl (Js rfl (step_nilCheck Sr) ?_)))))
 refine Js rfl (step_fieldAddr_own so183 Sr rfl) (Jm rfl (Js rfl (step_makeFirst Sr) ?_))
 refine Jx rfl (step_call zS (Do_spec b (buildOnce_spec b)) ⟨Sr, Sr, trivial⟩ call137) fun v10 => ?_
 refine JL_nil (Jr (Jm rfl (Js rfl (step_nilCheck Sr) (Js rfl (step_fieldAddr_own so183 Sr rfl) ?_))))
 refine Js rfl (step_load_fld ty181 Sr rfl zS) ?_
 refine Jm rfl ?_
 refine Jx rfl (step_invoke (A := tPtr (rStruct fsB2) (R3, T3)) Sr (by rintro h u w ⟨b, off, cs, rfl, _⟩; exact method_rep b off w) (Sel.none _) (BsrReplace_spec s hs) ⟨Sr, trivial⟩ call264) fun v16 => ?_
 refine Ja rfl (JL_nil (J_ret ?_))
 refine K_ret1 (t := 4) rfl () Sr
theorem Valid_spec (v : GValue) : Fun1 prog 52 [rValue.ty v] (tV (.bool (validV v))) := by
 refine Spec.enter func52 rfl rfl fun h0 w0 fr0 => ?_
 refine Jr (Js rfl (step_box (R := rValue) Sr) (Ja rfl (JL_nil (J_seq (Jr ?_)))))
 refine Js rfl (step_fieldAddr so58 Sr rfl) (Jl rfl ty3 Sr (Js rfl (step_neq Sr Sr) (Jm rfl (Jg rfl Sr rfl (fun hw => step_fieldAddr so58 Sr rfl) (Jg rfl Sr rfl (fun hw => step_load_ptr ty9 (Sub.w hw)) ?_)))))
 refine Jg rfl Sr rfl (fun hw => step_neq_str (Sub.w hw) Sr) (Js rfl (step_pick_and Sr Sr) (JL_nil ?_))
 refine J_cond Sr (fun hc1 => ?_) (fun hc1 => ?_)
 ·
  try simp only [NF] at hc1
  refine Jr (Ja rfl (JL_nil (J_ret ?_)))
  refine K_ret1 (t := 2) rfl () ?_
  refine Sub.bool ?_
  simp [validV, hc1]
 try simp only [NF] at hc1
 refine J_skip (Jr (Ja rfl (Ja rfl (JL_nil (J_seq ?_)))))
 refine Jr (Js rfl (step_fieldAddr so58 Sr rfl) (Jl rfl ty3 Sr (JL_nil (J_block (Jr ?_)))))
 refine Js rfl (step_eql Sr Sr) (Ja rfl (JL_nil ?_))
 refine J_cond Sr (fun hc2 => ?_) (fun hc2 => ?_)
 ·
  try simp only [NF] at hc2
  refine J_skip (Jr (Jm rfl (Js rfl (step_fieldAddr so58 Sr rfl) (Jl rfl ty3 Sr (Js rfl (step_leq Sr Sr) ?_)))))
  refine Jm rfl (Jg rfl Sr rfl (fun hw => step_fieldAddr so58 Sr rfl) (Jg rfl Sr rfl (fun hw => step_load_ptr ty3 (Sub.w hw)) (Jg rfl Sr rfl (fun hw => step_move Sr) (Jg rfl Sr rfl (fun hw => step_leq (Sub.w hw) (Sub.w hw)) (Js rfl (step_pick_and Sr Sr) ?_)))))
  refine Ja rfl (JL_nil (J_ret ?_))
  refine K_ret1 (t := 2) rfl () ?_
  refine Sub.bool ?_
  have h1 : ¬ (v.Kind ≠ 1 ∧ v.Text ≠ ⟨#[]⟩) := by rintro ⟨p, q⟩; rcases hc1 with hc1 | hc1 <;> contradiction
  simp only [validV, if_neg h1]
  simp [*]
 try simp only [NF] at hc2
 refine Jr (Js rfl (step_eql Sr Sr) (Ja rfl (JL_nil ?_)))
 refine J_cond Sr (fun hc3 => ?_) (fun hc3 => ?_)
 ·
  try simp only [NF] at hc3
  refine Jr (Js rfl (step_fieldAddr so58 Sr rfl) (Jl rfl ty9 Sr (Js rfl (step_len_str underlying9 Sr) (Js rfl (step_gtr Sr Sr) (JL_nil ?_)))))
  refine J_cond Sr (fun hc4 => ?_) (fun hc4 => ?_)
  ·
   try simp only [NF] at hc4
   refine Jr (Ja rfl (JL_nil (J_ret ?_)))
   refine K_ret1 (t := 2) rfl () ?_
   refine Sub.bool ?_
   have h1 : ¬ (v.Kind ≠ 1 ∧ v.Text ≠ ⟨#[]⟩) := by rintro ⟨p, q⟩; rcases hc1 with hc1 | hc1 <;> contradiction
   simp only [validV, if_neg h1]
   first | (simp [*]; done) | (simp_all; omega)
  try simp only [NF] at hc4
  refine J_skip (Jr (Jm rfl (Js rfl (step_fieldAddr so58 Sr rfl) (Jl rfl ty3 Sr (Js rfl (step_leq Sr Sr) ?_)))))
  refine Jm rfl (Jg rfl Sr rfl (fun hw => step_fieldAddr so58 Sr rfl) (Jg rfl Sr rfl (fun hw => step_load_ptr ty3 (Sub.w hw)) (Jg rfl Sr rfl (fun hw => step_move Sr) (Jg rfl Sr rfl (fun hw => step_leq (Sub.w hw) (Sub.w hw)) (Js rfl (step_pick_and Sr Sr) ?_)))))
  refine Ja rfl (JL_nil (J_ret ?_))
  refine K_ret1 (t := 2) rfl () ?_
  refine Sub.bool ?_
  have h1 : ¬ (v.Kind ≠ 1 ∧ v.Text ≠ ⟨#[]⟩) := by rintro ⟨p, q⟩; rcases hc1 with hc1 | hc1 <;> contradiction
  simp only [validV, if_neg h1]
  first | (simp [*]; done) | (simp_all; omega)
 try simp only [NF] at hc3
 refine Jr (Js rfl (step_eql Sr Sr) (Ja rfl (JL_nil ?_)))
 refine J_cond Sr (fun hc5 => ?_) (fun hc5 => ?_)
 ·
  try simp only [NF] at hc5
  refine J_region (Ja rfl (Ja rfl (JL_nil (Jr (Jm rfl ?_)))))
  refine Js rfl (step_fieldAddr so58 Sr rfl) (Jl rfl ty3 Sr (Js rfl (step_leq Sr Sr) (Jm rfl (Jg rfl Sr rfl (fun hw => step_fieldAddr so58 Sr rfl) (Jg rfl Sr rfl (fun hw => step_load_ptr ty3 (Sub.w hw)) ?_)))))
  refine Jg rfl Sr rfl (fun hw => step_move Sr) (Jg rfl Sr rfl (fun hw => step_leq (Sub.w hw) (Sub.w hw)) (Js rfl (step_pick_and Sr Sr) (Ja rfl (JL_nil (J_ret ?_)))))
  refine K_ret1 (t := 2) rfl () ?_
  refine Sub.bool ?_
  have h1 : ¬ (v.Kind ≠ 1 ∧ v.Text ≠ ⟨#[]⟩) := by rintro ⟨p, q⟩; rcases hc1 with hc1 | hc1 <;> contradiction
  simp only [validV, if_neg h1]
  first | (simp [*]; done) | (simp_all; omega)
 try simp only [NF] at hc5
 refine Jr (Js rfl (step_eql Sr Sr) (Ja rfl (JL_nil ?_)))
 refine J_cond Sr (fun hc6 => ?_) (fun hc6 => ?_)
 ·
  try simp only [NF] at hc6
  refine J_region (Ja rfl (JL_nil (Jr (Jm rfl (Js rfl (step_fieldAddr so58 Sr rfl) ?_)))))
  refine Jl rfl ty3 Sr (Js rfl (step_leq Sr Sr) (Jm rfl (Jg rfl Sr rfl (fun hw => step_fieldAddr so58 Sr rfl) (Jg rfl Sr rfl (fun hw => step_load_ptr ty3 (Sub.w hw)) (Jg rfl Sr rfl (fun hw => step_move Sr) ?_)))))
  refine Jg rfl Sr rfl (fun hw => step_leq (Sub.w hw) (Sub.w hw)) (Js rfl (step_pick_and Sr Sr) (Ja rfl (JL_nil (J_ret ?_))))
  refine K_ret1 (t := 2) rfl () ?_
  refine Sub.bool ?_
  have h1 : ¬ (v.Kind ≠ 1 ∧ v.Text ≠ ⟨#[]⟩) := by rintro ⟨p, q⟩; rcases hc1 with hc1 | hc1 <;> contradiction
  simp only [validV, if_neg h1]
  first | (simp [*]; done) | (simp_all; omega)
 try simp only [NF] at hc6
 refine Jr (Js rfl (step_eql Sr Sr) (Ja rfl (JL_nil ?_)))
 refine J_cond Sr (fun hc7 => ?_) (fun hc7 => ?_)
 ·
  try simp only [NF] at hc7
  refine J_region (Ja rfl (JL_nil (Jr (Jm rfl (Js rfl (step_fieldAddr so58 Sr rfl) ?_)))))
  refine Jl rfl ty3 Sr (Js rfl (step_leq Sr Sr) (Jm rfl (Jg rfl Sr rfl (fun hw => step_fieldAddr so58 Sr rfl) (Jg rfl Sr rfl (fun hw => step_load_ptr ty3 (Sub.w hw)) (Jg rfl Sr rfl (fun hw => step_move Sr) ?_)))))
  refine Jg rfl Sr rfl (fun hw => step_leq (Sub.w hw) (Sub.w hw)) (Js rfl (step_pick_and Sr Sr) (Ja rfl (JL_nil (J_ret ?_))))
  refine K_ret1 (t := 2) rfl () ?_
  refine Sub.bool ?_
  have h1 : ¬ (v.Kind ≠ 1 ∧ v.Text ≠ ⟨#[]⟩) := by rintro ⟨p, q⟩; rcases hc1 with hc1 | hc1 <;> contradiction
  simp only [validV, if_neg h1]
  first | (simp [*]; done) | (simp_all; omega)
 try simp only [NF] at hc7
 refine Jr (Ja rfl (JL_nil (J_ret ?_)))
 refine K_ret1 (t := 2) rfl () ?_
 refine Sub.bool ?_
 have h1 : ¬ (v.Kind ≠ 1 ∧ v.Text ≠ ⟨#[]⟩) := by rintro ⟨p, q⟩; rcases hc1 with hc1 | hc1 <;> contradiction
 simp only [validV, if_neg h1]
 first | (simp [*]; done) | (simp_all; omega)
theorem fmtB_spec (b : Bool) : Fun1 prog 140 [tV (.bool b)] (tV (.string (boolB b))) := by
 refine Spec.enter func140 rfl rfl fun h0 w0 fr0 => ?_
 refine Jr (Ja rfl (JL_nil (J_seq (Jr (Jm rfl ?_)))))
 refine JL_nil ?_
 refine J_cond Sr (fun h3 => ?_) (fun h3 => ?_)
 ·
  try simp only [NF] at h3
  refine Jr (Ja rfl (JL_nil (J_ret ?_)))
  refine K_retv (rv := .tmp 2) rfl () (.tmp Sr) (Sub.v (congrArg Value.string ?_))
  simp [boolB, h3]
 try simp only [NF] at h3
 refine J_skip (Jr (Ja rfl (JL_nil (J_ret ?_))))
 refine K_retv (rv := .tmp 2) rfl () (.tmp Sr) (Sub.v (congrArg Value.string ?_))
 simp [boolB, h3]
theorem FormatBool_spec (b : Bool) : Fun1 prog 112 [tV (.bool b)] (tV (.string (boolB b))) := by
 refine Spec.enter func112 rfl rfl fun h0 w0 fr0 => ?_
 refine Jr (Ja rfl (JL_nil (Jr (Jm rfl (Js rfl (step_call0 (fmtB_spec _) ⟨Sr, trivial⟩ call140) ?_)))))
 refine Ja rfl (JL_nil (J_ret ?_))
 exact K_ret1 (t := 2) rfl () Sr
theorem Text_spec (v : GValue) : Fun1 prog 71 [rValue.ty v] (tV (.string (textV v))) := by
 refine Spec.enter func71 rfl rfl fun h0 w0 fr0 => ?_
 refine Jr (Js rfl (step_box (R := rValue) Sr) (Ja rfl (JL_nil (J_seq (Jr ?_)))))
 refine Jl rfl ty58 Sr (Js rfl (step_call0 (Valid_spec _) ⟨Sr, trivial⟩ call52) (Js rfl (step_not Sr) (JL_nil ?_)))
 refine J_cond Sr (fun h5 => ?_) (fun h5 => ?_)
 ·
  try simp only [NF] at h5
  refine Jr (Ja rfl (JL_nil (J_ret ?_)))
  refine K_ret1' (rv := .tmp 2) rfl () (Sel.all _) (.tmp Sr) (Frz.sub (Sub.v (congrArg Value.string ?_)))
  have : validV v = false := by simpa using h5
  rw [textV, if_pos this]
 try simp only [NF] at h5
 have hvv : validV v = true := by simpa using h5
 have hn := valid_N hvv
 have hNr : -9223372036854775808 ≤ v.N ∧ v.N ≤ 9223372036854775807 := by omega
 have his := itoaB_size hNr
 refine J_skip (J_seq (Jr (Js rfl (step_fieldAddr so58 Sr rfl) (Jl rfl ty3 Sr (JL_nil ?_)))))
 refine J_block (Jr (Js rfl (step_eql Sr Sr) (Ja rfl (JL_nil ?_))))
 refine J_cond Sr (fun h8 => ?_) (fun h8 => ?_)
 ·
  try simp only [NF] at h8
  have hts : v.Text.size ≤ 1000000 := by have := valid_txt hvv h8; omega
  have hqs := quote_size v.Text
  have hq1 : (⟨#[34]⟩ : ByteArray).size = 1 := rfl
  have hes : (ofBytes (escL (bytesOf v.Text))).size ≤ 4 * v.Text.size := by unfold quoteB at hqs; rw [ByteArray.size_append, ByteArray.size_append] at hqs; omega
  refine J_seq ?_
  refine J_draw [⟨0, [], true⟩, ⟨2, [1], true⟩, ⟨3, [12], true⟩, ⟨1, [10], false⟩, ⟨4, [11, 13], false⟩, ⟨5, [14], true⟩, ⟨6, [15], true⟩, ⟨7, [16], true⟩] rfl (by kernel_rfl) ?_
  refine Mf rfl rfl (step_literal (ys := [_, _, _, _, _, _]) underlying167 el9 ⟨rfl, Sr, rfl, Sr, rfl, Sr, rfl, Sr, rfl, Sr, rfl, Sr, trivial⟩ rfl (by decide)) ?_
  refine Mf rfl rfl (step_fieldAddr so58 Sr rfl) (Mf rfl rfl (step_load_ptr ty9 Sr) ?_)
  refine JM_stepX rfl rfl rfl rfl (step_call (Sel.none _) (NewReplacer_spec six (by decide) (by decide)) ⟨Sr, trivial⟩ call109) fun b11 => ?_
  refine JM_stepX rfl rfl rfl rfl (step_call zS (Replace_spec b11 v.Text hts) ⟨Sr, Sr, trivial⟩ call110) fun v14 => ?_
  refine Mf rfl rfl (step_add_str Sr Sr zG) ?_
  refine Mf rfl rfl (step_add_str Sr Sr (by rw [ByteArray.size_append]; omega)) ?_
  refine Mf rfl rfl (step_assign Sr) (JM_nil (J_ret ?_))
  refine K_ret1' (rv := .tmp 2) rfl () (Sel.all _) (.tmp Sr) (Frz.sub (Sub.v (congrArg Value.string ?_)))
  rw [textV, if_neg (by rw [hvv]; decide), if_pos h8]; rfl
 try simp only [NF] at h8
 refine Jr (Js rfl (step_eql Sr Sr) (Ja rfl (JL_nil ?_)))
 refine J_cond Sr (fun h17 => ?_) (fun h17 => ?_)
 ·
  try simp only [NF] at h17
  refine Jr (Js rfl (step_fieldAddr so58 Sr rfl) (Jl rfl ty3 Sr (Js rfl (step_call0 (Itoa_spec v.N hNr) ⟨Sr, trivial⟩ call111) (Ja rfl (JL_nil ?_)))))
  refine J_ret ?_
  refine K_ret1' (rv := .tmp 2) rfl () (Sel.all _) (.tmp Sr) (Frz.sub (Sub.v (congrArg Value.string ?_)))
  first | (simp [textV, *]; done) | (simp [textV, *]; rfl)
 try simp only [NF] at h17
 refine Jr (Js rfl (step_eql Sr Sr) (Ja rfl (JL_nil ?_)))
 refine J_cond Sr (fun h22 => ?_) (fun h22 => ?_)
 ·
  try simp only [NF] at h22
  refine Jr (Js rfl (step_fieldAddr so58 Sr rfl) (Jl rfl ty3 Sr (Js rfl (step_call0 (Itoa_spec v.N hNr) ⟨Sr, trivial⟩ call111) ?_)))
  refine Js rfl (step_add_str Sr Sr (by have : (⟨#[64]⟩ : ByteArray).size = 1 := rfl; omega)) ?_
  refine Ja rfl (JL_nil (J_ret ?_))
  refine K_ret1' (rv := .tmp 2) rfl () (Sel.all _) (.tmp Sr) (Frz.sub (Sub.v (congrArg Value.string ?_)))
  first | (simp [textV, *]; done) | (simp [textV, *]; rfl)
 try simp only [NF] at h22
 refine Jr (Js rfl (step_eql Sr Sr) (Ja rfl (JL_nil ?_)))
 refine J_cond Sr (fun h28 => ?_) (fun h28 => ?_)
 ·
  try simp only [NF] at h28
  refine Jr (Js rfl (step_fieldAddr so58 Sr rfl) (Jl rfl ty3 Sr (Js rfl (step_eql Sr Sr) (Js rfl (step_call0 (FormatBool_spec _) ⟨Sr, trivial⟩ call112) (Ja rfl ?_)))))
  refine JL_nil (J_ret ?_)
  refine K_ret1' (rv := .tmp 2) rfl () (Sel.all _) (.tmp Sr) (Frz.sub (Sub.v (congrArg Value.string ?_)))
  first | (simp [textV, *]; done) | (simp [textV, *]; rfl)
 try simp only [NF] at h28
 refine J_skip (Jr (Ja rfl (JL_nil (J_ret ?_))))
 refine K_ret1' (rv := .tmp 2) rfl () (Sel.all _) (.tmp Sr) (Frz.sub (Sub.v (congrArg Value.string ?_)))
 first | (simp [textV, *]; done) | (simp [textV, *]; rfl)
open Go Go.Proofs Go.Proofs.Tryz
def ordI (a b : Int) : Int := if a < b then -1 else if b < a then 1 else 0
def ordS (a b : ByteArray) : Int := if Op.bytesLess a.toList b.toList then -1 else if Op.bytesLess a.toList b.toList || a.toList == b.toList then 0 else 1
def cmpV (a b : GValue) : Int := if ordI a.Kind b.Kind ≠ 0 then ordI a.Kind b.Kind else if ordI a.N b.N ≠ 0 then ordI a.N b.N else ordS a.Text b.Text
def opHolds (op c : Int) : Bool :=
  if op = 1 then decide (c = 0) else if op = 2 then !decide (c = 0) else if op = 3 then decide (c < 0) else if op = 4 then decide (c ≤ 0) else false
def testV (a : GValue) (op : Int) (b : GValue) (add : Int) : Bool :=
  if validV a = false ∨ validV b = false ∨ a.Kind ≠ b.Kind then false
  else if a.Kind = 2 ∨ a.Kind = 3 then opHolds op (ordI (a.N - b.N) add)
  else if a.Kind = 1 ∨ a.Kind = 4 then (if add ≠ 0 then false else opHolds op (cmpV a b))
  else false
theorem order_int_spec (a b : Int) : Fun1 prog 115 [tV (.int .i64 a), tV (.int .i64 b)] (tV (.int .i64 (ordI a b))) := by
 refine Spec.enter func115 rfl rfl fun h0 w0 fr0 => ?_
 refine Jr (Ja rfl (JL_nil (J_seq (J_block (Jr ?_)))))
 refine Jm rfl (Jm rfl (Js rfl (step_lss Sr Sr) (Ja rfl (JL_nil ?_))))
 refine J_cond Sr (fun hc1 => ?_) (fun hc1 => ?_)
 ·
  try simp only [NF] at hc1
  refine Jr (Ja rfl (JL_nil (J_ret ?_)))
  refine K_ret1 (t := 4) rfl () ?_
  refine Sub.int ?_
  simp [ordI, *]
 try simp only [NF] at hc1
 refine Jr (Jm rfl (Jm rfl (Js rfl (step_gtr Sr Sr) (Ja rfl (JL_nil ?_)))))
 refine J_cond Sr (fun hc2 => ?_) (fun hc2 => ?_)
 ·
  try simp only [NF] at hc2
  refine Jr (Ja rfl (JL_nil (J_ret ?_)))
  refine K_ret1 (t := 4) rfl () ?_
  refine Sub.int ?_
  have : ¬ a < b := by omega
  simp [ordI, *]
 try simp only [NF] at hc2
 refine J_skip (Jr (Ja rfl (JL_nil (J_ret ?_))))
 refine K_ret1 (t := 4) rfl () ?_
 refine Sub.int ?_
 have h1 : ¬ a < b := by omega
 have h2 : ¬ b < a := by omega
 simp [ordI, h1, h2]
theorem order_str_spec (a b : ByteArray) : Fun1 prog 141 [tV (.string a), tV (.string b)] (tV (.int .i64 (ordS a b))) := by
 refine Spec.enter func141 rfl rfl fun h0 w0 fr0 => ?_
 refine Jr (Ja rfl (JL_nil (J_seq (J_block (Jr ?_)))))
 refine Jm rfl (Jm rfl (Js rfl (step_lss_str Sr Sr) (Ja rfl (JL_nil ?_))))
 refine J_cond Sr (fun hc1 => ?_) (fun hc1 => ?_)
 ·
  try simp only [NF] at hc1
  refine Jr (Ja rfl (JL_nil (J_ret ?_)))
  refine K_ret1 (t := 4) rfl () ?_
  refine Sub.int ?_
  simp [ordS, hc1]
 try simp only [NF] at hc1
 refine Jr (Jm rfl (Jm rfl (Js rfl (step_gtr_str Sr Sr) (Ja rfl (JL_nil ?_)))))
 refine J_cond Sr (fun hc2 => ?_) (fun hc2 => ?_)
 ·
  try simp only [NF] at hc2
  refine Jr (Ja rfl (JL_nil (J_ret ?_)))
  refine K_ret1 (t := 4) rfl () ?_
  refine Sub.int ?_
  simp only [ordS, hc1, hc2]; simp
 try simp only [NF] at hc2
 refine J_skip (Jr (Ja rfl (JL_nil (J_ret ?_))))
 refine K_ret1 (t := 4) rfl () ?_
 refine Sub.int ?_
 simp only [ordS, hc1]; simp_all
theorem Compare_spec (a b : GValue) : Fun1 prog 116 [rValue.ty a, rValue.ty b] (tV (.int .i64 (cmpV a b))) := by
 refine Spec.enter func116 rfl rfl fun h0 w0 fr0 => ?_
 refine Jr (Js rfl (step_box (R := rValue) Sr) (Js rfl (step_box (R := rValue) Sr) (Ja rfl (JL_nil (J_seq ?_)))))
 refine Jr (Js rfl (step_fieldAddr so58 Sr rfl) (Jl rfl ty3 Sr (Js rfl (step_fieldAddr so58 Sr rfl) (Jl rfl ty3 Sr (Js rfl (step_call0 (order_int_spec _ _) ⟨Sr, Sr, trivial⟩ call115) ?_)))))
 refine Ja rfl (JL_nil (Jr (Jm rfl (Js rfl (step_neq Sr Sr) (JL_nil ?_)))))
 refine J_cond Sr (fun hc1 => ?_) (fun hc1 => ?_)
 ·
  try simp only [NF] at hc1
  refine Jr (Jm rfl (Ja rfl (JL_nil (J_ret ?_))))
  refine K_ret1 (t := 4) rfl () ?_
  refine Sub.int ?_
  simp [cmpV, hc1]
 try simp only [NF] at hc1
 refine J_skip (J_seq (Jr (Js rfl (step_fieldAddr so58 Sr rfl) (Jl rfl ty3 Sr (Js rfl (step_fieldAddr so58 Sr rfl) ?_)))))
 refine Jl rfl ty3 Sr (Js rfl (step_call0 (order_int_spec _ _) ⟨Sr, Sr, trivial⟩ call115) (Ja rfl (JL_nil (Jr (Jm rfl ?_)))))
 refine Js rfl (step_neq Sr Sr) (JL_nil ?_)
 refine J_cond Sr (fun hc2 => ?_) (fun hc2 => ?_)
 ·
  try simp only [NF] at hc2
  refine Jr (Jm rfl (Ja rfl (JL_nil (J_ret ?_))))
  refine K_ret1 (t := 4) rfl () ?_
  refine Sub.int ?_
  simp [cmpV, hc1, hc2]
 try simp only [NF] at hc2
 refine J_skip (Jr (Js rfl (step_fieldAddr so58 Sr rfl) (Jl rfl ty9 Sr (Js rfl (step_fieldAddr so58 Sr rfl) (Jl rfl ty9 Sr ?_)))))
 refine Js rfl (step_call0 (order_str_spec _ _) ⟨Sr, Sr, trivial⟩ call141) (Ja rfl (JL_nil (J_ret ?_)))
 refine K_ret1 (t := 4) rfl () ?_
 refine Sub.int ?_
 simp [cmpV, hc1, hc2]
theorem cE_spec (c : Int) : Fun1 prog 142 [tV (.int .i64 c)] (tV (.bool (decide (c = 0)))) := by
 refine Spec.enter func142 rfl rfl fun h0 w0 fr0 => ?_
 refine Jr (Ja rfl (JL_nil (Jr (Jm rfl (Js rfl (step_eql Sr Sr) ?_)))))
 refine Ja rfl (JL_nil (J_ret ?_))
 exact K_ret1 (t := 2) rfl () Sr
theorem cU_spec (c : Int) : Fun1 prog 143 [tV (.int .i64 c)] (tV (.bool (!decide (c = 0)))) := by
 refine Spec.enter func143 rfl rfl fun h0 w0 fr0 => ?_
 refine Jr (Ja rfl (JL_nil (Jr (Jm rfl (Js rfl (step_neq Sr Sr) ?_)))))
 refine Ja rfl (JL_nil (J_ret ?_))
 exact K_ret1 (t := 2) rfl () Sr
theorem cL_spec (c : Int) : Fun1 prog 144 [tV (.int .i64 c)] (tV (.bool (decide (c < 0)))) := by
 refine Spec.enter func144 rfl rfl fun h0 w0 fr0 => ?_
 refine Jr (Ja rfl (JL_nil (Jr (Jm rfl (Js rfl (step_lss Sr Sr) ?_)))))
 refine Ja rfl (JL_nil (J_ret ?_))
 exact K_ret1 (t := 2) rfl () Sr
theorem cA_spec (c : Int) : Fun1 prog 145 [tV (.int .i64 c)] (tV (.bool (decide (c ≤ 0)))) := by
 refine Spec.enter func145 rfl rfl fun h0 w0 fr0 => ?_
 refine Jr (Ja rfl (JL_nil (Jr (Jm rfl (Js rfl (step_leq Sr Sr) ?_)))))
 refine Ja rfl (JL_nil (J_ret ?_))
 exact K_ret1 (t := 2) rfl () Sr
def comps : List Gcomparison := [⟨1, .func (.func 142) #[] #[]⟩, ⟨2, .func (.func 143) #[] #[]⟩, ⟨3, .func (.func 144) #[] #[]⟩, ⟨4, .func (.func 145) #[] #[]⟩]
theorem comparisons_spec  : Fun1 prog 117 [] (tSl rcomparison comps) := by
 refine Spec.enter func117 rfl rfl fun h0 w0 fr0 => ?_
 refine Jr (Ja rfl (JL_nil (Jr ?_)))
 refine Js rfl (step_build (x := (⟨1, .func (.func 142) #[] #[]⟩ : Gcomparison)) (zs := [[Value.int .i64 0], [Value.nilFunc]]) so150 (fun w => zeroValue150 w) ⟨Sr, (by first | exact Sr | exact Sub.rV rfl), trivial⟩ ⟨⟨Sr, rfl⟩, ⟨(by first | exact Sr | exact Sub.rV rfl), rfl⟩, trivial⟩) ?_
 refine Js rfl (step_build (x := (⟨2, .func (.func 143) #[] #[]⟩ : Gcomparison)) (zs := [[Value.int .i64 0], [Value.nilFunc]]) so150 (fun w => zeroValue150 w) ⟨Sr, (by first | exact Sr | exact Sub.rV rfl), trivial⟩ ⟨⟨Sr, rfl⟩, ⟨(by first | exact Sr | exact Sub.rV rfl), rfl⟩, trivial⟩) ?_
 refine Js rfl (step_build (x := (⟨3, .func (.func 144) #[] #[]⟩ : Gcomparison)) (zs := [[Value.int .i64 0], [Value.nilFunc]]) so150 (fun w => zeroValue150 w) ⟨Sr, (by first | exact Sr | exact Sub.rV rfl), trivial⟩ ⟨⟨Sr, rfl⟩, ⟨(by first | exact Sr | exact Sub.rV rfl), rfl⟩, trivial⟩) ?_
 refine Js rfl (step_build (x := (⟨4, .func (.func 145) #[] #[]⟩ : Gcomparison)) (zs := [[Value.int .i64 0], [Value.nilFunc]]) so150 (fun w => zeroValue150 w) ⟨Sr, (by first | exact Sr | exact Sub.rV rfl), trivial⟩ ⟨⟨Sr, rfl⟩, ⟨(by first | exact Sr | exact Sub.rV rfl), rfl⟩, trivial⟩) ?_
 refine Js rfl (step_literal (ys := [_, _, _, _]) underlying147 el150 ⟨rfl, Sr, rfl, Sr, rfl, Sr, rfl, Sr, trivial⟩ rfl (by decide)) ?_
 refine Ja rfl (JL_nil (J_ret ?_))
 refine K_ret1 (t := 0) rfl () Sr
theorem step_comp {ro : Option Nat} {N : Nat} {ds : List Deferred} {h0 : PH} {w0 : World} {r : PH} {E : Env} {L : List SP} {d : Option Nat} {ty : Nat} {pos : String} {af : Array Edge} {g : Option (Nat × Bool)} {x y : Operand} {ts : Array Nat} {i : Nat} {c : Int}
    (hi : i < 4) (hx : Sub (opTy E x) (rV.ty (nth comps i).holds)) (hy : Sub (opTy E y) (tV (.int .i64 c))) :
    Step (X := Unit) ⟨prog, ro, N, ds, h0, w0, r⟩ ⟨d, .call { callee := .value x, args := #[y], argTypes := ts }, ty, pos, af, g⟩ E L (fun _ => tV (.bool (opHolds (nth comps i).op c))) (fun _ => L) := by
  have key : ∀ f v, Fun1 prog f [tV (.int .i64 c)] (tV (.bool v)) → (∀ args w, (callFunc f args).run prog w = .ok (.enter f args) w) → (nth comps i).holds = .func (.func f) #[] #[] → opHolds (nth comps i).op c = v →
      Step (X := Unit) ⟨prog, ro, N, ds, h0, w0, r⟩ ⟨d, .call { callee := .value x, args := #[y], argTypes := ts }, ty, pos, af, g⟩ E L (fun _ => tV (.bool (opHolds (nth comps i).op c))) (fun _ => L) := by
    intro f v hf he h1 h2
    rw [h2]
    refine step_callv0 (f := f) (aT := [tV (.int .i64 c)]) (As := []) (fun h u e => ?_) hf ⟨hy, trivial⟩ he
    obtain ⟨e1, _⟩ := hx h u e
    rw [h1] at e1
    exact ⟨[], e1, trivial⟩
  rcases i with _ | _ | _ | _ | i
  · exact key 142 _ (cE_spec c) call142 rfl (by simp [opHolds, comps])
  · exact key 143 _ (cU_spec c) call143 rfl (by simp [opHolds, comps])
  · exact key 144 _ (cL_spec c) call144 rfl (by simp [opHolds, comps])
  · exact key 145 _ (cA_spec c) call145 rfl (by simp [opHolds, comps])
  · omega
theorem opHolds_none {op c : Int} (h : ∀ k, k < 4 → (nth comps k).op ≠ op) : opHolds op c = false := by
  have h0 := h 0 (by omega); have h1 := h 1 (by omega); have h2 := h 2 (by omega); have h3 := h 3 (by omega)
  simp only [comps, nth] at h0 h1 h2 h3
  simp [opHolds, Ne.symm h0, Ne.symm h1, Ne.symm h2, Ne.symm h3]
theorem in64_sub {a b : GValue} (ha : validV a = true) (hb : validV b = true) : in64 (a.N - b.N) := by
  have := valid_N ha
  have := valid_N hb
  unfold in64; omega
theorem Test_spec (a b : GValue) (op add : Int) : Fun1 prog 79 [rValue.ty a, tV (.int .i64 op), rValue.ty b, tV (.int .i64 add)] (tV (.bool (testV a op b add))) := by
 refine Spec.enter func79 rfl rfl fun h0 w0 fr0 => ?_
 refine Jr (Js rfl (step_box (R := rValue) Sr) (Js rfl (step_box (R := rValue) Sr) (Ja rfl (JL_nil (J_seq ?_)))))
 refine Jr (Jl rfl ty58 Sr (Js rfl (step_call0 (Valid_spec _) ⟨Sr, trivial⟩ call52) (Js rfl (step_not Sr) (Jm rfl (Jg rfl Sr rfl (fun hw => step_load_ptr ty58 Sr) ?_)))))
 refine Jg rfl Sr rfl (fun hw => step_call0 (Valid_spec _) ⟨(Sub.w hw), trivial⟩ call52) (Jg rfl Sr rfl (fun hw => step_not (Sub.w hw)) (Js rfl (step_pick_or Sr Sr) (Jm rfl (Jg rfl Sr rfl (fun hw => step_fieldAddr so58 Sr rfl) (Jg rfl Sr rfl (fun hw => step_load_ptr ty3 (Sub.w hw)) ?_)))))
 refine Jg rfl Sr rfl (fun hw => step_fieldAddr so58 Sr rfl) (Jg rfl Sr rfl (fun hw => step_load_ptr ty3 (Sub.w hw)) (Jg rfl Sr rfl (fun hw => step_neq (Sub.w hw) (Sub.w hw)) (Js rfl (step_pick_or Sr Sr) (JL_nil ?_))))
 refine J_cond Sr (fun hc1 => ?_) (fun hc1 => ?_)
 ·
  try simp only [NF] at hc1
  refine Jr (Ja rfl (JL_nil (J_ret ?_)))
  refine K_ret1 (t := 8) rfl () ?_
  refine Sub.bool ?_
  have : (validV a = false ∨ validV b = false ∨ a.Kind ≠ b.Kind) := by simpa [or_assoc] using hc1
  simp only [testV, if_pos this]
 try simp only [NF] at hc1
 have hva : validV a = true := by simp_all
 have hvb : validV b = true := by simp_all
 have hk : a.Kind = b.Kind := by simp_all
 have hpre : ¬ (validV a = false ∨ validV b = false ∨ a.Kind ≠ b.Kind) := by simp [hva, hvb, hk]
 refine J_skip (Jr (Ja rfl (JL_nil (J_seq (Jr ?_)))))
 refine Js rfl (step_fieldAddr so58 Sr rfl) (Jl rfl ty3 Sr (JL_nil (J_block (J_seq (Jr ?_)))))
 refine Js rfl (step_eql Sr Sr) (Ja rfl (JL_nil ?_))
 refine J_cond Sr (fun hc2 => ?_) (fun hc2 => ?_)
 ·
  try simp only [NF] at hc2
  refine J_skip ?_
  refine J_cond Sr (fun hc3 => ?_) (fun hc3 => ?_)
  ·
   try simp only [NF] at hc3
   refine J_region (Js rfl (step_fieldAddr so58 Sr rfl) (Jl rfl ty3 Sr (Js rfl (step_fieldAddr so58 Sr rfl) (Jl rfl ty3 Sr (Js rfl (step_sub Sr Sr (in64_sub hva hvb)) ?_)))))
   refine Jm rfl (Js rfl (step_call0 (order_int_spec _ _) ⟨Sr, Sr, trivial⟩ call115) (Ja rfl (JL_nil (J_seq (Jr ?_)))))
   refine Js rfl (step_call0 (comparisons_spec ) trivial call117) (Js rfl (step_len_sl underlying147 Sr) (Jm rfl (JL_nil (J_block ?_))))
   refine J_loopL (σ := Nat) (fun i => i ≤ 4 ∧ ∀ k, k < i → (nth comps k).op ≠ op) (fun i => upd (upd (upd (upd (upd env0 1 (tV (.int .i64 op))) 9 (tV (.int .i64 (ordI (a.N - b.N) add)))) 47 (tSl rcomparison comps)) 48 (tV (.int .i64 4))) 49 (tV (.int .i64 i))) (fun i => []) (fun i => 4 - i) 0 ⟨by omega, fun k hk => by omega⟩ (.u (.u (.u (.u (SubE.upd Sr SubE.any))))) (LSub.rfl) ?_
   rintro i ⟨hi, hv⟩
   refine Jr (Js rfl (step_lss Sr Sr) (JL_nil (J_seq ?_)))
   refine J_cond Sr (fun hc4 => ?_) (fun hc4 => ?_)
   ·
    try simp only [NF] at hc4
    have hlt : i < 4 := by omega
    refine J_skip (J_seq (J_block (Jr ?_)))
    refine Js rfl (step_indexAddr_sl  underlying147 ty150 Sr Sr rfl (gb (by exact hlt))) ?_
    refine Jl rfl ty150 Sr ?_
    refine Jx rfl (step_alloc (fun w => zeroValue150 w) zr150) fun v11 => ?_
    refine Ju (step_store_box ty150 Sr Sr zS) fun _ => ?_
    refine JL_freeze (t := 11) (Sel.take (Sel.none _)) Frz.box ?_
    refine JL_nil (Jr (Js rfl (step_fieldAddr so150 Sr rfl) (Jl rfl ty3 Sr (Jm rfl (Js rfl (step_eql Sr Sr) ?_)))))
    refine JL_nil ?_
    refine J_cond Sr (fun hc5 => ?_) (fun hc5 => ?_)
    ·
     try simp only [NF] at hc5
     refine Jr (Js rfl (step_fieldAddr so150 Sr rfl) (Jl rfl ty78 Sr (Jm rfl (Js rfl (step_comp hlt Sr Sr) (Ja rfl ?_)))))
     refine JL_nil (J_ret ?_)
     refine K_ret1 (t := 8) rfl () ?_
     refine Sub.bool ?_
     rw [testV, if_neg hpre]
     simp_all
    try simp only [NF] at hc5
    refine J_skip (J_region (Js rfl (step_add Sr Sr z6) (Jm rfl (JL_nil ?_))))
    refine K_againL (σ := Nat) (s := i) (i + 1) zO ?_ (.u (.u (.u (.u (SubE.upd Sr SubE.any))))) (LSub.rfl)
    refine ⟨by omega, fun k hk => ?_⟩
    by_cases e : k = i
    ·
     subst e; simp_all
    exact hv k zG
   try simp only [NF] at hc4
   have hno := fun c => opHolds_none (op := op) (c := c) (fun k hk => hv k zG)
   refine J_exit (Jr (Ja rfl (JL_nil (J_ret ?_))))
   refine K_ret1 (t := 8) rfl () ?_
   refine Sub.bool ?_
   rw [testV, if_neg hpre]
   simp_all
  try simp only [NF] at hc3
  first | contradiction | omega | (simp_all; done)
 try simp only [NF] at hc2
 refine J_region (Js rfl (step_eql Sr Sr) (Ja rfl (JL_nil ?_)))
 refine J_cond Sr (fun hc6 => ?_) (fun hc6 => ?_)
 ·
  try simp only [NF] at hc6
  refine J_region (Js rfl (step_fieldAddr so58 Sr rfl) (Jl rfl ty3 Sr (Js rfl (step_fieldAddr so58 Sr rfl) (Jl rfl ty3 Sr (Js rfl (step_sub Sr Sr (in64_sub hva hvb)) ?_)))))
  refine Jm rfl (Js rfl (step_call0 (order_int_spec _ _) ⟨Sr, Sr, trivial⟩ call115) (Ja rfl (JL_nil (J_seq (Jr ?_)))))
  refine Js rfl (step_call0 (comparisons_spec ) trivial call117) (Js rfl (step_len_sl underlying147 Sr) (Jm rfl (JL_nil (J_block ?_))))
  refine J_loopL (σ := Nat) (fun i => i ≤ 4 ∧ ∀ k, k < i → (nth comps k).op ≠ op) (fun i => upd (upd (upd (upd (upd env0 1 (tV (.int .i64 op))) 9 (tV (.int .i64 (ordI (a.N - b.N) add)))) 47 (tSl rcomparison comps)) 48 (tV (.int .i64 4))) 49 (tV (.int .i64 i))) (fun i => []) (fun i => 4 - i) 0 ⟨by omega, fun k hk => by omega⟩ (.u (.u (.u (.u (SubE.upd Sr SubE.any))))) (LSub.rfl) ?_
  rintro i ⟨hi, hv⟩
  refine Jr (Js rfl (step_lss Sr Sr) (JL_nil (J_seq ?_)))
  refine J_cond Sr (fun hc7 => ?_) (fun hc7 => ?_)
  ·
   try simp only [NF] at hc7
   have hlt : i < 4 := by omega
   refine J_skip (J_seq (J_block (Jr ?_)))
   refine Js rfl (step_indexAddr_sl  underlying147 ty150 Sr Sr rfl (gb (by exact hlt))) ?_
   refine Jl rfl ty150 Sr ?_
   refine Jx rfl (step_alloc (fun w => zeroValue150 w) zr150) fun v11 => ?_
   refine Ju (step_store_box ty150 Sr Sr zS) fun _ => ?_
   refine JL_freeze (t := 11) (Sel.take (Sel.none _)) Frz.box ?_
   refine JL_nil (Jr (Js rfl (step_fieldAddr so150 Sr rfl) (Jl rfl ty3 Sr (Jm rfl (Js rfl (step_eql Sr Sr) ?_)))))
   refine JL_nil ?_
   refine J_cond Sr (fun hc8 => ?_) (fun hc8 => ?_)
   ·
    try simp only [NF] at hc8
    refine Jr (Js rfl (step_fieldAddr so150 Sr rfl) (Jl rfl ty78 Sr (Jm rfl (Js rfl (step_comp hlt Sr Sr) (Ja rfl ?_)))))
    refine JL_nil (J_ret ?_)
    refine K_ret1 (t := 8) rfl () ?_
    refine Sub.bool ?_
    rw [testV, if_neg hpre]
    simp_all
   try simp only [NF] at hc8
   refine J_skip (J_region (Js rfl (step_add Sr Sr z6) (Jm rfl (JL_nil ?_))))
   refine K_againL (σ := Nat) (s := i) (i + 1) zO ?_ (.u (.u (.u (.u (SubE.upd Sr SubE.any))))) (LSub.rfl)
   refine ⟨by omega, fun k hk => ?_⟩
   by_cases e : k = i
   ·
    subst e; simp_all
   exact hv k zG
  try simp only [NF] at hc7
  have hno := fun c => opHolds_none (op := op) (c := c) (fun k hk => hv k zG)
  refine J_exit (Jr (Ja rfl (JL_nil (J_ret ?_))))
  refine K_ret1 (t := 8) rfl () ?_
  refine Sub.bool ?_
  rw [testV, if_neg hpre]
  simp_all
 try simp only [NF] at hc6
 refine J_seq (Jr (Js rfl (step_eql Sr Sr) (Ja rfl (JL_nil ?_))))
 refine J_cond Sr (fun hc9 => ?_) (fun hc9 => ?_)
 ·
  try simp only [NF] at hc9
  refine J_skip ?_
  refine J_cond Sr (fun hc10 => ?_) (fun hc10 => ?_)
  ·
   try simp only [NF] at hc10
   refine J_seq (Jr (Jm rfl (Js rfl (step_neq Sr Sr) (JL_nil ?_))))
   refine J_cond Sr (fun hc11 => ?_) (fun hc11 => ?_)
   ·
    try simp only [NF] at hc11
    refine Jr (Ja rfl (JL_nil (J_ret ?_)))
    refine K_ret1 (t := 8) rfl () ?_
    refine Sub.bool ?_
    rw [testV, if_neg hpre]
    simp_all
   try simp only [NF] at hc11
   refine J_skip (J_region (Jl rfl ty58 Sr (Jl rfl ty58 Sr (Js rfl (step_call0 (Compare_spec _ _) ⟨Sr, Sr, trivial⟩ call116) (Ja rfl ?_)))))
   refine JL_nil (J_seq (Jr (Js rfl (step_call0 (comparisons_spec ) trivial call117) (Js rfl (step_len_sl underlying147 Sr) (Jm rfl ?_)))))
   refine JL_nil (J_block ?_)
   refine J_loopL (σ := Nat) (fun i => i ≤ 4 ∧ ∀ k, k < i → (nth comps k).op ≠ op) (fun i => upd (upd (upd (upd (upd env0 1 (tV (.int .i64 op))) 9 (tV (.int .i64 (cmpV a b)))) 47 (tSl rcomparison comps)) 48 (tV (.int .i64 4))) 49 (tV (.int .i64 i))) (fun i => []) (fun i => 4 - i) 0 ⟨by omega, fun k hk => by omega⟩ (.u (.u (.u (.u (SubE.upd Sr SubE.any))))) (LSub.rfl) ?_
   rintro i ⟨hi, hv⟩
   refine Jr (Js rfl (step_lss Sr Sr) (JL_nil (J_seq ?_)))
   refine J_cond Sr (fun hc12 => ?_) (fun hc12 => ?_)
   ·
    try simp only [NF] at hc12
    have hlt : i < 4 := by omega
    refine J_skip (J_seq (J_block (Jr ?_)))
    refine Js rfl (step_indexAddr_sl  underlying147 ty150 Sr Sr rfl (gb (by exact hlt))) ?_
    refine Jl rfl ty150 Sr ?_
    refine Jx rfl (step_alloc (fun w => zeroValue150 w) zr150) fun v11 => ?_
    refine Ju (step_store_box ty150 Sr Sr zS) fun _ => ?_
    refine JL_freeze (t := 11) (Sel.take (Sel.none _)) Frz.box ?_
    refine JL_nil (Jr (Js rfl (step_fieldAddr so150 Sr rfl) (Jl rfl ty3 Sr (Jm rfl (Js rfl (step_eql Sr Sr) ?_)))))
    refine JL_nil ?_
    refine J_cond Sr (fun hc13 => ?_) (fun hc13 => ?_)
    ·
     try simp only [NF] at hc13
     refine Jr (Js rfl (step_fieldAddr so150 Sr rfl) (Jl rfl ty78 Sr (Jm rfl (Js rfl (step_comp hlt Sr Sr) (Ja rfl ?_)))))
     refine JL_nil (J_ret ?_)
     refine K_ret1 (t := 8) rfl () ?_
     refine Sub.bool ?_
     rw [testV, if_neg hpre]
     simp_all
    try simp only [NF] at hc13
    refine J_skip (J_region (Js rfl (step_add Sr Sr z6) (Jm rfl (JL_nil ?_))))
    refine K_againL (σ := Nat) (s := i) (i + 1) zO ?_ (.u (.u (.u (.u (SubE.upd Sr SubE.any))))) (LSub.rfl)
    refine ⟨by omega, fun k hk => ?_⟩
    by_cases e : k = i
    ·
     subst e; simp_all
    exact hv k zG
   try simp only [NF] at hc12
   have hno := fun c => opHolds_none (op := op) (c := c) (fun k hk => hv k zG)
   refine J_exit (Jr (Ja rfl (JL_nil (J_ret ?_))))
   refine K_ret1 (t := 8) rfl () ?_
   refine Sub.bool ?_
   rw [testV, if_neg hpre]
   simp_all
  try simp only [NF] at hc10
  first | contradiction | omega | (simp_all; done)
 try simp only [NF] at hc9
 refine J_region (Js rfl (step_eql Sr Sr) (Ja rfl (JL_nil ?_)))
 refine J_cond Sr (fun hc14 => ?_) (fun hc14 => ?_)
 ·
  try simp only [NF] at hc14
  refine J_seq (Jr (Jm rfl (Js rfl (step_neq Sr Sr) (JL_nil ?_))))
  refine J_cond Sr (fun hc15 => ?_) (fun hc15 => ?_)
  ·
   try simp only [NF] at hc15
   refine Jr (Ja rfl (JL_nil (J_ret ?_)))
   refine K_ret1 (t := 8) rfl () ?_
   refine Sub.bool ?_
   rw [testV, if_neg hpre]
   simp_all
  try simp only [NF] at hc15
  refine J_skip (J_region (Jl rfl ty58 Sr (Jl rfl ty58 Sr (Js rfl (step_call0 (Compare_spec _ _) ⟨Sr, Sr, trivial⟩ call116) (Ja rfl ?_)))))
  refine JL_nil (J_seq (Jr (Js rfl (step_call0 (comparisons_spec ) trivial call117) (Js rfl (step_len_sl underlying147 Sr) (Jm rfl ?_)))))
  refine JL_nil (J_block ?_)
  refine J_loopL (σ := Nat) (fun i => i ≤ 4 ∧ ∀ k, k < i → (nth comps k).op ≠ op) (fun i => upd (upd (upd (upd (upd env0 1 (tV (.int .i64 op))) 9 (tV (.int .i64 (cmpV a b)))) 47 (tSl rcomparison comps)) 48 (tV (.int .i64 4))) 49 (tV (.int .i64 i))) (fun i => []) (fun i => 4 - i) 0 ⟨by omega, fun k hk => by omega⟩ (.u (.u (.u (.u (SubE.upd Sr SubE.any))))) (LSub.rfl) ?_
  rintro i ⟨hi, hv⟩
  refine Jr (Js rfl (step_lss Sr Sr) (JL_nil (J_seq ?_)))
  refine J_cond Sr (fun hc16 => ?_) (fun hc16 => ?_)
  ·
   try simp only [NF] at hc16
   have hlt : i < 4 := by omega
   refine J_skip (J_seq (J_block (Jr ?_)))
   refine Js rfl (step_indexAddr_sl  underlying147 ty150 Sr Sr rfl (gb (by exact hlt))) ?_
   refine Jl rfl ty150 Sr ?_
   refine Jx rfl (step_alloc (fun w => zeroValue150 w) zr150) fun v11 => ?_
   refine Ju (step_store_box ty150 Sr Sr zS) fun _ => ?_
   refine JL_freeze (t := 11) (Sel.take (Sel.none _)) Frz.box ?_
   refine JL_nil (Jr (Js rfl (step_fieldAddr so150 Sr rfl) (Jl rfl ty3 Sr (Jm rfl (Js rfl (step_eql Sr Sr) ?_)))))
   refine JL_nil ?_
   refine J_cond Sr (fun hc17 => ?_) (fun hc17 => ?_)
   ·
    try simp only [NF] at hc17
    refine Jr (Js rfl (step_fieldAddr so150 Sr rfl) (Jl rfl ty78 Sr (Jm rfl (Js rfl (step_comp hlt Sr Sr) (Ja rfl ?_)))))
    refine JL_nil (J_ret ?_)
    refine K_ret1 (t := 8) rfl () ?_
    refine Sub.bool ?_
    rw [testV, if_neg hpre]
    simp_all
   try simp only [NF] at hc17
   refine J_skip (J_region (Js rfl (step_add Sr Sr z6) (Jm rfl (JL_nil ?_))))
   refine K_againL (σ := Nat) (s := i) (i + 1) zO ?_ (.u (.u (.u (.u (SubE.upd Sr SubE.any))))) (LSub.rfl)
   refine ⟨by omega, fun k hk => ?_⟩
   by_cases e : k = i
   ·
    subst e; simp_all
   exact hv k zG
  try simp only [NF] at hc16
  have hno := fun c => opHolds_none (op := op) (c := c) (fun k hk => hv k zG)
  refine J_exit (Jr (Ja rfl (JL_nil (J_ret ?_))))
  refine K_ret1 (t := 8) rfl () ?_
  refine Sub.bool ?_
  rw [testV, if_neg hpre]
  simp_all
 try simp only [NF] at hc14
 refine Jr (Ja rfl (JL_nil (J_ret ?_)))
 refine K_ret1 (t := 8) rfl () ?_
 refine Sub.bool ?_
 rw [testV, if_neg hpre]
 simp_all
open Go Go.Proofs Go.Proofs.Tryz
abbrev kvV (v : GValue) : Value := .agg #[.int .i64 v.Kind, .int .i64 v.N, .string v.Text]
instance : DecidableEq GValue := fun a b => decidable_of_iff (a.Kind = b.Kind ∧ a.N = b.N ∧ a.Text = b.Text) ⟨fun ⟨h1, h2, h3⟩ => by cases a; cases b; simp_all, fun h => by subst h; exact ⟨rfl, rfl, rfl⟩⟩
theorem Sub.val {x : GValue} : Sub (rValue.ty x) (tV (kvV x)) := fun h v r => by
  obtain ⟨cs, r, rfl⟩ := r
  obtain ⟨c0, _, rfl, r0, c1, _, rfl, r1, c2, _, rfl, r2, rz⟩ := r
  have r0 : c0 = [.int .i64 x.Kind] := r0
  have r1 : c1 = [.int .i64 x.N] := r1
  have r2 : c2 = [.string x.Text] := r2
  subst r0 r1 r2; rw [show _ = [] from rz]; rfl
theorem toL_eq (a b : ByteArray) : (a.toList == b.toList) = decide (a = b) := by
  rw [← beq_toListBytes]
  obtain ⟨⟨x⟩⟩ := a
  obtain ⟨⟨y⟩⟩ := b
  show ((⟨x⟩ : Array UInt8) == ⟨y⟩) = _
  rw [Bool.eq_iff_iff]; simp
theorem eq_value (a b : GValue) (w : World) : (Op.equalIn 10000 58 (kvV a) (kvV b)).run prog w = .ok (decide (a = b)) w := by
  have u3 := underlying3
  have u9 := underlying9
  have a3 := isAgg3
  have a9 := isAgg9
  have z3 := sizeOf3
  have z9 := sizeOf9
  have hS : prog.underlying 58 = some (.struct (prog.fieldsOf 58)) := by kernel_rfl
  have hp : prog.stoodInHeld 58 = false := by kernel_rfl
  rw [show (10000 : Nat) = 9999 + 1 from rfl, run_equalIn_agg w 9999 58 _ _ hS hp]
  simp only [Program.fieldsOf, underlying58]
  go_simp
  have e : decide (a = b) = (decide (a.Kind = b.Kind) && (decide (a.N = b.N) && decide (a.Text = b.Text))) := by
    rw [Bool.eq_iff_iff]; simp
    constructor
    · intro h; subst h; exact ⟨rfl, rfl, rfl⟩
    · rintro ⟨h1, h2, h3⟩; cases a; cases b; simp_all
  have e2 : (a.Text.toList = b.Text.toList) ↔ a.Text = b.Text := by
    have := toL_eq a.Text b.Text
    rw [Bool.eq_iff_iff] at this
    simpa using this
  rw [e]
  by_cases h1 : a.Kind = b.Kind <;> by_cases h2 : a.N = b.N <;> by_cases h3 : a.Text = b.Text <;> simp [h1, h2, h3, e2]
theorem ge_value : prog.eqGuardType prog.depth 58 = false := by kernel_rfl
theorem step_neq_val {ro : Option Nat} {N : Nat} {ds : List Deferred} {h0 : PH} {w0 : World} {r : PH} {E : Env} {L : List SP} {d : Option Nat} {ty : Nat} {pos : String} {af : Array Edge} {g : Option (Nat × Bool)} {x y : Operand} {U : Nat} {a b : GValue} (hx : Sub (opTy E x) (rValue.ty a)) (hy : Sub (opTy E y) (rValue.ty b)) :
    Step1 ⟨prog, ro, N, ds, h0, w0, r⟩ ⟨d, .binOp .neq 58 x y U, ty, pos, af, g⟩ E L (tV (.bool (!decide (a = b)))) :=
  Step.of_same (by intro c h; cases h) fun ac w h hw f => by
    have h1 : ac.eval x = kvV a := f.get (Sub.trans hx Sub.val)
    have h2 : ac.eval y = kvV b := f.get (Sub.trans hy Sub.val)
    have he := run_eqGuard_agg (P := prog) w .neq 58 x y #[.int .i64 a.Kind, .int .i64 a.N, .string a.Text] #[.int .i64 b.Kind, .int .i64 b.N, .string b.Text] ge_value
    refine ⟨.bool (!decide (a = b)), ?_, rfl⟩
    simp [execOp, h1, h2, Sem.run_bind, he, run_neq_struct, eq_value]
theorem step_eql_val {ro : Option Nat} {N : Nat} {ds : List Deferred} {h0 : PH} {w0 : World} {r : PH} {E : Env} {L : List SP} {d : Option Nat} {ty : Nat} {pos : String} {af : Array Edge} {g : Option (Nat × Bool)} {x y : Operand} {U : Nat} {a b : GValue} (hx : Sub (opTy E x) (rValue.ty a)) (hy : Sub (opTy E y) (rValue.ty b)) :
    Step1 ⟨prog, ro, N, ds, h0, w0, r⟩ ⟨d, .binOp .eql 58 x y U, ty, pos, af, g⟩ E L (tV (.bool (decide (a = b)))) :=
  Step.of_same (by intro c h; cases h) fun ac w h hw f => by
    have h1 : ac.eval x = kvV a := f.get (Sub.trans hx Sub.val)
    have h2 : ac.eval y = kvV b := f.get (Sub.trans hy Sub.val)
    have he := run_eqGuard_agg (P := prog) w .eql 58 x y #[.int .i64 a.Kind, .int .i64 a.N, .string a.Text] #[.int .i64 b.Kind, .int .i64 b.N, .string b.Text] ge_value
    refine ⟨.bool (decide (a = b)), ?_, rfl⟩
    simp [execOp, h1, h2, Sem.run_bind, he, run_eql_struct, eq_value]
def findI {α : Type} (p : α → Bool) : Int → List α → Int
  | _, [] => -1
  | i, x :: l => if p x then i else findI p (i + 1) l
theorem findI_bd {α : Type} (p : α → Bool) : ∀ (l : List α) (i : Int), 0 ≤ i → -1 ≤ findI p i l ∧ findI p i l < i + l.length ∧ (0 ≤ findI p i l ↔ l.any p = true)
  | [], i, h => by simp [findI]; omega
  | x :: l, i, h => by
    have ih := findI_bd p l (i + 1) (by omega)
    simp only [findI, List.length_cons, List.any_cons]
    by_cases hx : p x = true
    · simp [hx]; omega
    · simp only [hx, Bool.false_or]
      simp only [Bool.false_eq_true, if_false]
      refine ⟨ih.1, by have := ih.2.1; omega, ih.2.2⟩
open Go Go.Proofs Go.Proofs.Tryz
theorem IndexFuncI_spec (l : List Int) (hl : l.length ≤ 1000000000000) (gi : Nat) (As : List Ty) (p : Int → Bool) (hp : ∀ x ∈ l, Fun1 prog gi ([tV (.int .i64 x)] ++ As) (tV (.bool (p x)))) (he : ∀ args w, (callFunc gi args).run prog w = .ok (.enter gi args) w) : Fun1 prog 69 [tSl rInt l, tClo gi As] (tV (.int .i64 (findI p 0 l))) := by
 refine Spec.enter func69 rfl rfl fun h0 w0 fr0 => ?_
 refine Jr (Ja rfl (JL_nil (J_seq (Jr (Jm rfl ?_)))))
 refine Js rfl (step_len_sl underlying27 Sr) (Jm rfl (JL_nil (J_block ?_)))
 refine J_loopL (σ := Nat) (fun i => i ≤ l.length ∧ findI p 0 l = findI p i (l.drop i)) (fun i => upd (upd (upd (upd env0 0 (tSl rInt l)) 1 (tClo gi As)) 7 (tV (.int .i64 l.length))) 8 (tV (.int .i64 i))) (fun i => []) (fun i => l.length - i) 0 ⟨by omega, by simp⟩ (.u (.u (.u (SubE.upd Sr SubE.any)))) (LSub.rfl) ?_
 rintro i ⟨hi, hv⟩
 refine Jr (Js rfl (step_lss Sr Sr) (JL_nil (J_seq ?_)))
 refine J_cond Sr (fun h9 => ?_) (fun h9 => ?_)
 ·
  try simp only [NF] at h9
  have hlt : i < l.length := by omega
  have hd := dropB hlt
  refine J_skip (J_seq (J_block (Jr (Jm rfl (Ja rfl ?_)))))
  refine JL_nil (Jr (Jm rfl (Jm rfl (Jm rfl ?_))))
  refine Js rfl (step_indexAddr_sl  underlying27 ty3 Sr Sr rfl (gb (by first | assumption | omega))) ?_
  refine Jl rfl ty3 Sr (Js rfl (step_callv0 (aT := [_]) Sr (hp _ (nth_mem hlt)) ⟨Sr, trivial⟩ he) (JL_nil ?_))
  refine J_cond Sr (fun h16 => ?_) (fun h16 => ?_)
  ·
   try simp only [NF] at h16
   refine Jr (Jm rfl (Ja rfl (JL_nil (J_ret ?_))))
   refine K_retv (rv := .tmp 4) rfl () (.tmp Sr) (Sub.int ?_)
   rw [hv, hd]; simp only [findI]; rw [if_pos h16]
  try simp only [NF] at h16
  refine J_skip (J_region (Js rfl (step_add Sr Sr z6) (Jm rfl (JL_nil ?_))))
  refine K_againL (σ := Nat) (s := i) (i + 1) zO ?_ (.u (.u (.u (SubE.upd Sr SubE.any)))) (LSub.rfl)
  refine ⟨by omega, ?_⟩
  rw [hv, hd]; simp only [findI]; rw [if_neg (by simp [h16])]; simp
 try simp only [NF] at h9
 refine J_exit (Jr (Ja rfl (JL_nil (J_ret ?_))))
 refine K_retv (rv := .tmp 4) rfl () (.tmp Sr) (Sub.int ?_)
 rw [hv, List.drop_of_length_le zG]; rfl
theorem ContainsFuncI_spec (l : List Int) (hl : l.length ≤ 1000000000000) (gi : Nat) (As : List Ty) (p : Int → Bool) (hp : ∀ x ∈ l, Fun1 prog gi ([tV (.int .i64 x)] ++ As) (tV (.bool (p x)))) (he : ∀ args w, (callFunc gi args).run prog w = .ok (.enter gi args) w) : Fun1 prog 42 [tSl rInt l, tClo gi As] (tV (.bool (l.any p))) := by
 refine Spec.enter func42 rfl rfl fun h0 w0 fr0 => ?_
 refine Jr (Ja rfl (JL_nil (Jr (Jm rfl (Jm rfl ?_)))))
 refine Js rfl (step_call0 (IndexFuncI_spec l hl gi As p hp he) ⟨Sr, Sr, trivial⟩ call69) (Js rfl (step_geq Sr Sr) (Ja rfl (JL_nil (J_ret ?_))))
 refine K_retv (rv := .tmp 4) rfl () (.tmp Sr) (Sub.bool ?_)
 have hq := (findI_bd p l 0 zG).2.2
 by_cases ha : l.any p = true
 ·
  rw [ha]; simp; exact hq.2 ha
 simp only [Bool.not_eq_true] at ha; rw [ha]; simp; have : ¬ 0 ≤ findI p 0 l := (fun h => by rw [hq.1 h] at ha; cases ha)
 omega
theorem IndexFuncM_spec (l : List Int) (hl : l.length ≤ 1000000000000) (gi : Nat) (As : List Ty) (B : SP) (p : Int → Bool) (hp : ∀ x ∈ l, Spec (X := Unit) prog gi ([tV (.int .i64 x)] ++ As) [B] (fun _ => tV (.bool (p x))) (fun _ => [B])) (he : ∀ args w, (callFunc gi args).run prog w = .ok (.enter gi args) w) : Spec (X := Unit) prog 69 [tSl rInt l, tClo gi As] ([B]) (fun _ => tV (.int .i64 (findI p 0 l))) (fun _ => [B]) := by
 refine Spec.enter func69 rfl rfl fun h0 w0 fr0 => ?_
 refine Jr (Ja rfl (JL_nil (J_seq (Jr (Jm rfl ?_)))))
 refine Js rfl (step_len_sl underlying27 Sr) (Jm rfl (JL_nil (J_block ?_)))
 refine J_loopL (σ := Nat) (fun i => i ≤ l.length ∧ findI p 0 l = findI p i (l.drop i)) (fun i => upd (upd (upd (upd env0 0 (tSl rInt l)) 1 (tClo gi As)) 7 (tV (.int .i64 l.length))) 8 (tV (.int .i64 i))) (fun i => [B]) (fun i => l.length - i) 0 ⟨by omega, by simp⟩ (.u (.u (.u (SubE.upd Sr SubE.any)))) (LSub.rfl) ?_
 rintro i ⟨hi, hv⟩
 refine Jr (Js rfl (step_lss Sr Sr) (JL_nil (J_seq ?_)))
 refine J_cond Sr (fun h9 => ?_) (fun h9 => ?_)
 ·
  try simp only [NF] at h9
  have hlt : i < l.length := by omega
  have hd := dropB hlt
  refine J_skip (J_seq (J_block (Jr (Jm rfl (Ja rfl ?_)))))
  refine JL_nil (Jr (Jm rfl (Jm rfl (Jm rfl ?_))))
  refine Js rfl (step_indexAddr_sl  underlying27 ty3 Sr Sr rfl (gb (by first | assumption | omega))) ?_
  refine Jl rfl ty3 Sr ?_
  refine Jx rfl (step_callv (aT := [_]) Sr (Sel.all _) (hp _ (nth_mem hlt)) ⟨Sr, trivial⟩ he) fun v16 => ?_
  refine JL_nil ?_
  refine J_cond Sr (fun h16 => ?_) (fun h16 => ?_)
  ·
   try simp only [NF] at h16
   refine Jr (Jm rfl (Ja rfl (JL_nil (J_ret ?_))))
   refine K_retv (rv := .tmp 4) rfl () (.tmp Sr) (Sub.int ?_)
   rw [hv, hd]; simp only [findI]; rw [if_pos h16]
  try simp only [NF] at h16
  refine J_skip (J_region (Js rfl (step_add Sr Sr z6) (Jm rfl (JL_nil ?_))))
  refine K_againL (σ := Nat) (s := i) (i + 1) zO ?_ (.u (.u (.u (SubE.upd Sr SubE.any)))) (LSub.rfl)
  refine ⟨by omega, ?_⟩
  rw [hv, hd]; simp only [findI]; rw [if_neg (by simp [h16])]; simp
 try simp only [NF] at h9
 refine J_exit (Jr (Ja rfl (JL_nil (J_ret ?_))))
 refine K_retv (rv := .tmp 4) rfl () (.tmp Sr) (Sub.int ?_)
 rw [hv, List.drop_of_length_le zG]; rfl
theorem ContainsFuncM_spec (l : List Int) (hl : l.length ≤ 1000000000000) (gi : Nat) (As : List Ty) (B : SP) (p : Int → Bool) (hp : ∀ x ∈ l, Spec (X := Unit) prog gi ([tV (.int .i64 x)] ++ As) [B] (fun _ => tV (.bool (p x))) (fun _ => [B])) (he : ∀ args w, (callFunc gi args).run prog w = .ok (.enter gi args) w) : Spec (X := Unit) prog 42 [tSl rInt l, tClo gi As] ([B]) (fun _ => tV (.bool (l.any p))) (fun _ => [B]) := by
 refine Spec.enter func42 rfl rfl fun h0 w0 fr0 => ?_
 refine Jr (Ja rfl (JL_nil (Jr (Jm rfl (Jm rfl ?_)))))
 refine Jx rfl (step_call (Sel.all _) (IndexFuncM_spec l hl gi As B p hp he) ⟨Sr, Sr, trivial⟩ call69) fun v7 => ?_
 refine Js rfl (step_geq Sr Sr) (Ja rfl (JL_nil (J_ret ?_)))
 refine K_retv (rv := .tmp 4) rfl () (.tmp Sr) (Sub.bool ?_)
 have hq := (findI_bd p l 0 zG).2.2
 by_cases ha : l.any p = true
 ·
  rw [ha]; simp; exact hq.2 ha
 simp only [Bool.not_eq_true] at ha; rw [ha]; simp; have : ¬ 0 ≤ findI p 0 l := (fun h => by rw [hq.1 h] at ha; cases ha)
 omega
theorem IndexFuncA_spec (l : List GAtom) (hl : l.length ≤ 1000000000000) (gi : Nat) (As : List Ty) (p : GAtom → Bool) (hp : ∀ x ∈ l, Fun1 prog gi ([rAtom.ty x] ++ As) (tV (.bool (p x)))) (he : ∀ args w, (callFunc gi args).run prog w = .ok (.enter gi args) w) : Fun1 prog 82 [tSl rAtom l, tClo gi As] (tV (.int .i64 (findI p 0 l))) := by
 refine Spec.enter func82 rfl rfl fun h0 w0 fr0 => ?_
 refine Jr (Ja rfl (JL_nil (J_seq (Jr (Jm rfl ?_)))))
 refine Js rfl (step_len_sl underlying23 Sr) (Jm rfl (JL_nil (J_block ?_)))
 refine J_loopL (σ := Nat) (fun i => i ≤ l.length ∧ findI p 0 l = findI p i (l.drop i)) (fun i => upd (upd (upd (upd env0 0 (tSl rAtom l)) 1 (tClo gi As)) 7 (tV (.int .i64 l.length))) 8 (tV (.int .i64 i))) (fun i => []) (fun i => l.length - i) 0 ⟨by omega, by simp⟩ (.u (.u (.u (SubE.upd Sr SubE.any)))) (LSub.rfl) ?_
 rintro i ⟨hi, hv⟩
 refine Jr (Js rfl (step_lss Sr Sr) (JL_nil (J_seq ?_)))
 refine J_cond Sr (fun h9 => ?_) (fun h9 => ?_)
 ·
  try simp only [NF] at h9
  have hlt : i < l.length := by omega
  have hd := dropB hlt
  refine J_skip (J_seq (J_block (Jr (Jm rfl (Ja rfl ?_)))))
  refine JL_nil (Jr (Jm rfl (Jm rfl (Jm rfl ?_))))
  refine Js rfl (step_indexAddr_sl  underlying23 ty47 Sr Sr rfl (gb (by first | assumption | omega))) ?_
  refine Jl rfl ty47 Sr (Js rfl (step_callv0 (aT := [_]) Sr (hp _ (nth_mem hlt)) ⟨Sr, trivial⟩ he) (JL_nil ?_))
  refine J_cond Sr (fun h16 => ?_) (fun h16 => ?_)
  ·
   try simp only [NF] at h16
   refine Jr (Jm rfl (Ja rfl (JL_nil (J_ret ?_))))
   refine K_retv (rv := .tmp 4) rfl () (.tmp Sr) (Sub.int ?_)
   rw [hv, hd]; simp only [findI]; rw [if_pos h16]
  try simp only [NF] at h16
  refine J_skip (J_region (Js rfl (step_add Sr Sr z6) (Jm rfl (JL_nil ?_))))
  refine K_againL (σ := Nat) (s := i) (i + 1) zO ?_ (.u (.u (.u (SubE.upd Sr SubE.any)))) (LSub.rfl)
  refine ⟨by omega, ?_⟩
  rw [hv, hd]; simp only [findI]; rw [if_neg (by simp [h16])]; simp
 try simp only [NF] at h9
 refine J_exit (Jr (Ja rfl (JL_nil (J_ret ?_))))
 refine K_retv (rv := .tmp 4) rfl () (.tmp Sr) (Sub.int ?_)
 rw [hv, List.drop_of_length_le zG]; rfl
theorem ContainsFuncA_spec (l : List GAtom) (hl : l.length ≤ 1000000000000) (gi : Nat) (As : List Ty) (p : GAtom → Bool) (hp : ∀ x ∈ l, Fun1 prog gi ([rAtom.ty x] ++ As) (tV (.bool (p x)))) (he : ∀ args w, (callFunc gi args).run prog w = .ok (.enter gi args) w) : Fun1 prog 54 [tSl rAtom l, tClo gi As] (tV (.bool (l.any p))) := by
 refine Spec.enter func54 rfl rfl fun h0 w0 fr0 => ?_
 refine Jr (Ja rfl (JL_nil (Jr (Jm rfl (Jm rfl ?_)))))
 refine Js rfl (step_call0 (IndexFuncA_spec l hl gi As p hp he) ⟨Sr, Sr, trivial⟩ call82) (Js rfl (step_geq Sr Sr) (Ja rfl (JL_nil (J_ret ?_))))
 refine K_retv (rv := .tmp 4) rfl () (.tmp Sr) (Sub.bool ?_)
 have hq := (findI_bd p l 0 zG).2.2
 by_cases ha : l.any p = true
 ·
  rw [ha]; simp; exact hq.2 ha
 simp only [Bool.not_eq_true] at ha; rw [ha]; simp; have : ¬ 0 ≤ findI p 0 l := (fun h => by rw [hq.1 h] at ha; cases ha)
 omega
theorem IndexFuncF_spec (l : List GFact) (hl : l.length ≤ 1000000000000) (gi : Nat) (As : List Ty) (p : GFact → Bool) (hp : ∀ x ∈ l, Fun1 prog gi ([rFact.ty x] ++ As) (tV (.bool (p x)))) (he : ∀ args w, (callFunc gi args).run prog w = .ok (.enter gi args) w) : Fun1 prog 122 [tSl rFact l, tClo gi As] (tV (.int .i64 (findI p 0 l))) := by
 refine Spec.enter func122 rfl rfl fun h0 w0 fr0 => ?_
 refine Jr (Ja rfl (JL_nil (J_seq (Jr (Jm rfl ?_)))))
 refine Js rfl (step_len_sl underlying26 Sr) (Jm rfl (JL_nil (J_block ?_)))
 refine J_loopL (σ := Nat) (fun i => i ≤ l.length ∧ findI p 0 l = findI p i (l.drop i)) (fun i => upd (upd (upd (upd env0 0 (tSl rFact l)) 1 (tClo gi As)) 7 (tV (.int .i64 l.length))) 8 (tV (.int .i64 i))) (fun i => []) (fun i => l.length - i) 0 ⟨by omega, by simp⟩ (.u (.u (.u (SubE.upd Sr SubE.any)))) (LSub.rfl) ?_
 rintro i ⟨hi, hv⟩
 refine Jr (Js rfl (step_lss Sr Sr) (JL_nil (J_seq ?_)))
 refine J_cond Sr (fun h9 => ?_) (fun h9 => ?_)
 ·
  try simp only [NF] at h9
  have hlt : i < l.length := by omega
  have hd := dropB hlt
  refine J_skip (J_seq (J_block (Jr (Jm rfl (Ja rfl ?_)))))
  refine JL_nil (Jr (Jm rfl (Jm rfl (Jm rfl ?_))))
  refine Js rfl (step_indexAddr_sl  underlying26 ty45 Sr Sr rfl (gb (by first | assumption | omega))) ?_
  refine Jl rfl ty45 Sr (Js rfl (step_callv0 (aT := [_]) Sr (hp _ (nth_mem hlt)) ⟨Sr, trivial⟩ he) (JL_nil ?_))
  refine J_cond Sr (fun h16 => ?_) (fun h16 => ?_)
  ·
   try simp only [NF] at h16
   refine Jr (Jm rfl (Ja rfl (JL_nil (J_ret ?_))))
   refine K_retv (rv := .tmp 4) rfl () (.tmp Sr) (Sub.int ?_)
   rw [hv, hd]; simp only [findI]; rw [if_pos h16]
  try simp only [NF] at h16
  refine J_skip (J_region (Js rfl (step_add Sr Sr z6) (Jm rfl (JL_nil ?_))))
  refine K_againL (σ := Nat) (s := i) (i + 1) zO ?_ (.u (.u (.u (SubE.upd Sr SubE.any)))) (LSub.rfl)
  refine ⟨by omega, ?_⟩
  rw [hv, hd]; simp only [findI]; rw [if_neg (by simp [h16])]; simp
 try simp only [NF] at h9
 refine J_exit (Jr (Ja rfl (JL_nil (J_ret ?_))))
 refine K_retv (rv := .tmp 4) rfl () (.tmp Sr) (Sub.int ?_)
 rw [hv, List.drop_of_length_le zG]; rfl
theorem ContainsFuncF_spec (l : List GFact) (hl : l.length ≤ 1000000000000) (gi : Nat) (As : List Ty) (p : GFact → Bool) (hp : ∀ x ∈ l, Fun1 prog gi ([rFact.ty x] ++ As) (tV (.bool (p x)))) (he : ∀ args w, (callFunc gi args).run prog w = .ok (.enter gi args) w) : Fun1 prog 95 [tSl rFact l, tClo gi As] (tV (.bool (l.any p))) := by
 refine Spec.enter func95 rfl rfl fun h0 w0 fr0 => ?_
 refine Jr (Ja rfl (JL_nil (Jr (Jm rfl (Jm rfl ?_)))))
 refine Js rfl (step_call0 (IndexFuncF_spec l hl gi As p hp he) ⟨Sr, Sr, trivial⟩ call122) (Js rfl (step_geq Sr Sr) (Ja rfl (JL_nil (J_ret ?_))))
 refine K_retv (rv := .tmp 4) rfl () (.tmp Sr) (Sub.bool ?_)
 have hq := (findI_bd p l 0 zG).2.2
 by_cases ha : l.any p = true
 ·
  rw [ha]; simp; exact hq.2 ha
 simp only [Bool.not_eq_true] at ha; rw [ha]; simp; have : ¬ 0 ≤ findI p 0 l := (fun h => by rw [hq.1 h] at ha; cases ha)
 omega
theorem IndexI_spec (l : List Int) (v : Int) (hl : l.length ≤ 1000000000000) : Fun1 prog 83 [tSl rInt l, tV (.int .i64 v)] (tV (.int .i64 (findI (fun x => decide (v = x)) 0 l))) := by
 refine Spec.enter func83 rfl rfl fun h0 w0 fr0 => ?_
 refine Jr (Ja rfl (JL_nil (J_seq (Jr (Jm rfl ?_)))))
 refine Js rfl (step_len_sl underlying27 Sr) (Jm rfl (JL_nil (J_block ?_)))
 refine J_loopL (σ := Nat) (fun i => i ≤ l.length ∧ findI (fun x => decide (v = x)) 0 l = findI (fun x => decide (v = x)) i (l.drop i)) (fun i => upd (upd (upd (upd env0 0 (tSl rInt l)) 1 (tV (.int .i64 v))) 7 (tV (.int .i64 l.length))) 8 (tV (.int .i64 i))) (fun i => []) (fun i => l.length - i) 0 ⟨by omega, by simp⟩ (.u (.u (.u (SubE.upd Sr SubE.any)))) (LSub.rfl) ?_
 rintro i ⟨hi, hv⟩
 refine Jr (Js rfl (step_lss Sr Sr) (JL_nil (J_seq ?_)))
 refine J_cond Sr (fun h9 => ?_) (fun h9 => ?_)
 ·
  try simp only [NF] at h9
  have hlt : i < l.length := by omega
  have hd := dropB hlt
  refine J_skip (J_seq (J_block (Jr (Jm rfl (Ja rfl ?_)))))
  refine JL_nil (Jr (Jm rfl (Jm rfl (Jm rfl ?_))))
  refine Js rfl (step_indexAddr_sl  underlying27 ty3 Sr Sr rfl (gb (by first | assumption | omega))) ?_
  refine Jl rfl ty3 Sr (Js rfl (step_eql Sr Sr) (JL_nil ?_))
  refine J_cond Sr (fun h16 => ?_) (fun h16 => ?_)
  ·
   try simp only [NF] at h16
   have he : v = nth l i := by first | exact h16 | simpa using h16
   refine Jr (Jm rfl (Ja rfl (JL_nil (J_ret ?_))))
   refine K_ret1' (rv := .tmp 4) rfl () (Sel.all _) (.tmp Sr) (Frz.sub (Sub.int ?_))
   rw [hv, hd]; simp [findI, he]
  try simp only [NF] at h16
  have hne : ¬ v = nth l i := by first | exact h16 | simpa using h16
  refine J_skip (J_region (Js rfl (step_add Sr Sr z6) (Jm rfl (JL_nil ?_))))
  refine K_againL (σ := Nat) (s := i) (i + 1) zO ?_ (.u (.u (.u (SubE.upd Sr SubE.any)))) (LSub.rfl)
  refine ⟨by omega, ?_⟩
  rw [hv, hd]; simp [findI, hne]
 try simp only [NF] at h9
 refine J_exit (Jr (Ja rfl (JL_nil (J_ret ?_))))
 refine K_ret1' (rv := .tmp 4) rfl () (Sel.all _) (.tmp Sr) (Frz.sub (Sub.int ?_))
 rw [hv, List.drop_of_length_le zG]; rfl
theorem ContainsI_spec (l : List Int) (v : Int) (hl : l.length ≤ 1000000000000) : Fun1 prog 56 [tSl rInt l, tV (.int .i64 v)] (tV (.bool (l.any fun x => decide (v = x)))) := by
 refine Spec.enter func56 rfl rfl fun h0 w0 fr0 => ?_
 refine Jr (Ja rfl (JL_nil (Jr (Jm rfl (Jm rfl ?_)))))
 refine Js rfl (step_call0 (IndexI_spec _ _ hl) ⟨Sr, Sr, trivial⟩ call83) (Js rfl (step_geq Sr Sr) (Ja rfl (JL_nil (J_ret ?_))))
 refine K_ret1' (rv := .tmp 4) rfl () (Sel.all _) (.tmp Sr) (Frz.sub (Sub.bool ?_))
 rw [Bool.eq_iff_iff, decide_eq_true_eq]; exact (findI_bd _ l 0 zG).2.2
theorem IndexV_spec (l : List GValue) (v : GValue) (hl : l.length ≤ 1000000000000) : Fun1 prog 81 [tSl rValue l, rValue.ty v] (tV (.int .i64 (findI (fun x => decide (v = x)) 0 l))) := by
 refine Spec.enter func81 rfl rfl fun h0 w0 fr0 => ?_
 refine Jr (Js rfl (step_box (R := rValue) Sr) (Ja rfl (JL_nil (J_seq (Jr ?_)))))
 refine Jm rfl (Js rfl (step_len_sl underlying22 Sr) (Jm rfl (JL_nil (J_block ?_))))
 refine J_loopL (σ := Nat) (fun i => i ≤ l.length ∧ findI (fun x => decide (v = x)) 0 l = findI (fun x => decide (v = x)) i (l.drop i)) (fun i => upd (upd (upd (upd env0 0 (tSl rValue l)) 3 (tPtr rValue v)) 7 (tV (.int .i64 l.length))) 8 (tV (.int .i64 i))) (fun i => []) (fun i => l.length - i) 0 ⟨by omega, by simp⟩ (.u (.u (.u (SubE.upd Sr SubE.any)))) (LSub.rfl) ?_
 rintro i ⟨hi, hv⟩
 refine Jr (Js rfl (step_lss Sr Sr) (JL_nil (J_seq ?_)))
 refine J_cond Sr (fun h9 => ?_) (fun h9 => ?_)
 ·
  try simp only [NF] at h9
  have hlt : i < l.length := by omega
  have hd := dropB hlt
  refine J_skip (J_seq (J_block (Jr (Jm rfl (Ja rfl ?_)))))
  refine JL_nil (J_seq ?_)
  refine J_draw [⟨0, [3], true⟩, ⟨1, [0], true⟩, ⟨2, [5], true⟩, ⟨3, [12, 13], true⟩, ⟨4, [14], true⟩, ⟨5, [11, 15], true⟩] rfl (by kernel_rfl) ?_
  refine Mf rfl rfl (step_load_ptr ty58 Sr) (Mv rfl rfl (Mv rfl rfl ?_))
  refine Mf rfl rfl (step_indexAddr_sl  underlying22 ty58 Sr Sr rfl (gb (by first | assumption | omega))) ?_
  refine Mf rfl rfl (step_load_ptr ty58 Sr) (Mf rfl rfl (step_eql_val Sr Sr) (JM_nil ?_))
  refine J_cond Sr (fun h16 => ?_) (fun h16 => ?_)
  ·
   try simp only [NF] at h16
   have he : v = nth l i := by first | exact h16 | simpa using h16
   refine Jr (Jm rfl (Ja rfl (JL_nil (J_ret ?_))))
   refine K_ret1' (rv := .tmp 4) rfl () (Sel.all _) (.tmp Sr) (Frz.sub (Sub.int ?_))
   rw [hv, hd]; simp [findI, he]
  try simp only [NF] at h16
  have hne : ¬ v = nth l i := by first | exact h16 | simpa using h16
  refine J_skip (J_region (Js rfl (step_add Sr Sr z6) (Jm rfl (JL_nil ?_))))
  refine K_againL (σ := Nat) (s := i) (i + 1) zO ?_ (.u (.u (.u (SubE.upd Sr SubE.any)))) (LSub.rfl)
  refine ⟨by omega, ?_⟩
  rw [hv, hd]; simp [findI, hne]
 try simp only [NF] at h9
 refine J_exit (Jr (Ja rfl (JL_nil (J_ret ?_))))
 refine K_ret1' (rv := .tmp 4) rfl () (Sel.all _) (.tmp Sr) (Frz.sub (Sub.int ?_))
 rw [hv, List.drop_of_length_le zG]; rfl
theorem ContainsV_spec (l : List GValue) (v : GValue) (hl : l.length ≤ 1000000000000) : Fun1 prog 53 [tSl rValue l, rValue.ty v] (tV (.bool (l.any fun x => decide (v = x)))) := by
 refine Spec.enter func53 rfl rfl fun h0 w0 fr0 => ?_
 refine Jr (Js rfl (step_box (R := rValue) Sr) (Ja rfl (JL_nil (Jr (Jm rfl ?_)))))
 refine Jl rfl ty58 Sr (Js rfl (step_call0 (IndexV_spec _ _ hl) ⟨Sr, Sr, trivial⟩ call81) (Js rfl (step_geq Sr Sr) (Ja rfl (JL_nil (J_ret ?_)))))
 refine K_ret1' (rv := .tmp 4) rfl () (Sel.all _) (.tmp Sr) (Frz.sub (Sub.bool ?_))
 rw [Bool.eq_iff_iff, decide_eq_true_eq]; exact (findI_bd _ l 0 zG).2.2
end Lg
