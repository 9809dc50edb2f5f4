/- The statements of the seat out of functions of data: the laid world, the row, the card. -/
import Derived.Test.YtpkbmngnolhopaaGreatDoorCards
import Derived.Test.YtpkbmngnolhopaaGreatDoorTie
import Derived.Test.YtpkbmngnolhopaaGreatDoorXTeCx
import Derived.Test.YtpkbmngnolhopaaGreatDoorXSxZb
import Derived.LaidLaws
import Derived.Stop.Joined
set_option maxRecDepth 100000
namespace Go.Proofs.Tryz
open Go Go.Sx Go.Proofs.YtpkbmngnolhopaaGreatDoor
theorem own:ownKnob prog.godebug = none := by kernel_rfl
theorem laidOut:laidOutB prog = true := by kernel_rfl
def cellsOfD:DataW Unit → Array Value
 | .agg l=>(l.filterMap fun d=>match d with | .lit (.int k n)=>some (Value.int k n) | _=>none).toArray
 | _=>#[]
def setCells (cs:Array Value):Obj → Obj
 | .cells _ t frozen=>.cells cs t frozen
 | o=>o
noncomputable def laidWorld (os:Os):World :=
 {World.holding prog os ⟨#[],#[],[]⟩ with heap := (((World.holding prog os ⟨#[],#[],[]⟩).heap.modify 2 (setCells (cellsOfD Rows.laid_math_bits_deBruijn32tab))).modify 3 (setCells (cellsOfD Rows.laid_math_bits_deBruijn64tab))).modify 0 (setCells (cellsOfD Rows.laid_internal_strconv_uint64pow10)) }
def laidL:List (String × DataW Unit) := Rows.entryViewsRow.laid
theorem laid_met (os:Os) (args:Array Value):laidMet prog laidL ((laidWorld os).forCall (fun _ _=>0) ⟨#[],args,[]⟩).memory :=
 laidMet_of_run' 8 (by kernel_rfl) (by kernel_rfl)
theorem law_lifted {f:FuncId} {fn:Func} {s:ChangeSpec} {ats:List ATy} {c:Nat → AEls ats → Option Bool} {tb:TypeId} (args0:Array Value) (os:Os) (started:os.Started) (H:Type) (enc:TypeId × Value → H)
  (hni:prog.inits.idxOf? f = none) (hfn:prog.funcs[f]? = some fn)
  (hv:((laidWorld os).forCall (fun _ _=>0) ⟨#[],args0,[]⟩).variablesB prog = true)
  (hr:((((laidWorld os).forCall (fun _ _=>0) ⟨#[],args0,[]⟩).heap.toList.drop prog.globals.size).take ((begin prog (fun _ _=>0) default).world.heap.size - prog.globals.size) =
   (begin prog (fun _ _=>0) default).world.heap.toList.drop prog.globals.size))
  (hok:Input.okWideB prog ((laidWorld os).forCall (fun _ _=>0) ⟨#[],args0,[]⟩) f ⟨#[],args0,[]⟩ = true)
  (hpre:s.preB enc prog fn [] false ((laidWorld os).forCall (fun _ _=>0) ⟨#[],args0,[]⟩).memory args0 8 = true)
  (hsz:s.sizedB enc prog fn false ((laidWorld os).forCall (fun _ _=>0) ⟨#[],args0,[]⟩).memory args0 8 = true)
  (hps:(fn.params.toList.all fun t=>prog.readableRec t && decide (t < prog.types.size)) = true) (hk:atysK prog fn.params.toList = some ats)
  (hres:fn.resultTypes = #[tb]) (htb:prog.underlying tb = some .bool) (hvars:s.vars = []) (hspec:∀ ds:List (DataW H),ds.length = fn.params.toList.length → s.fn H ds = { results := [.lit (.bool true)],args := ds })
  (hpc:∀ F,PCOk cx f ⟨ats,[.val .bool],c F⟩) (law:∀ a,AEls.ok ats a → ∃ F,c F a = some true) :
  ReturnsInHanded {} checked os f .any (fun w args=>(s.pre enc prog fn [] false w args ∧ laidMet prog laidL w) ∧ sizedMet enc prog fn (OpenSpec.ofChange s) false w args)
   (s.post enc prog fn false true false false) := by
 refine returnsInHanded_of_change_and (C := checked) (X := fun w _=>laidMet prog laidL w) (fun _ _ _ hh h=>h.of_heap hh) own started hni hfn
  (ChangeSpec.witness_at (enc := enc) (C := checked) (os := os) (X := fun w _=>laidMet prog laidL w) false (laidWorld os) args0 8 rfl hv hr hok hpre hsz (laid_met os args0)) ?_
 intro W base args ds gs before hval hW _ hwt _ _
 exact law_calls (cx := cx) laidOut hps hk hres htb hvars hspec hpc law hval hW hwt
end Go.Proofs.Tryz
