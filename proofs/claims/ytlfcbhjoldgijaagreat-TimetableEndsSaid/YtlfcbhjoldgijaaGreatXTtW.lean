/- The statements of the seat out of functions of data. -/
import Derived.Test.YtlfcbhjoldgijaaGreatRows
import Derived.Test.YtlfcbhjoldgijaaGreatXTtCx
import Derived.Test.YtlfcbhjoldgijaaGreatXSxQh
import Derived.Handed
import Derived.Stop.Joined
set_option maxRecDepth 100000
namespace Go.Proofs.Tryz
open Go Go.Sx Go.Proofs.YtlfcbhjoldgijaaGreat
theorem ownK:ownKnob prog.godebug = none := by kernel_rfl
theorem laidOut:laidOutB prog = true := by kernel_rfl
theorem law_lifted {f:FuncId} {fn:Func} {s:ChangeSpec} {ats:List ATy} {c:Nat → AEls ats → Option Bool} {tb:TypeId} (args0:Array Value) (os:Os) (started:os.Started) (H:Type) (enc:TypeId × Value → H)
  (hni:prog.inits.idxOf? f = none) (hfn:prog.funcs[f]? = some fn)
  (hv:(World.plainHolding prog os ⟨#[],args0,[]⟩).variablesB prog = true)
  (hr:((World.plainHolding prog os ⟨#[],args0,[]⟩).heap.toList.drop prog.globals.size).take ((begin prog (fun _ _=>0) default).world.heap.size - prog.globals.size) =
   (begin prog (fun _ _=>0) default).world.heap.toList.drop prog.globals.size)
  (hok:Input.okWideB prog (World.plainHolding prog os ⟨#[],args0,[]⟩) f ⟨#[],args0,[]⟩ = true)
  (hpre:s.preB enc prog fn [] false (World.plainHolding prog os ⟨#[],args0,[]⟩).memory args0 8 = true)
  (hsz:s.sizedB enc prog fn false (World.plainHolding prog os ⟨#[],args0,[]⟩).memory args0 8 = true)
  (hps:(fn.params.toList.all fun t=>prog.readableRec t && decide (t < prog.types.size)) = true) (hk:atysK prog fn.params.toList = some ats)
  (hres:fn.resultTypes = #[tb]) (htb:prog.underlying tb = some .bool) (hvars:s.vars = []) (hspec:∀ ds:List (DataW H),ds.length = fn.params.toList.length → s.fn H ds = { results := [.lit (.bool true)],args := ds })
  (hpc:∀ F,PCOk cx f ⟨ats,[.val .bool],c F⟩) (law:∀ a,AEls.ok ats a → ∃ F,c F a = some true) :
  ReturnsInHanded {} checked os f .any (fun w args=>s.pre enc prog fn [] false w args ∧ sizedMet enc prog fn (OpenSpec.ofChange s) false w args)
   (s.post enc prog fn false true false false) := by
 refine returnsInHanded_of_calls (C := checked) ownK started hni
  (ChangeSpec.witness6 (enc := enc) (C := checked) (os := os) false ⟨#[],args0,[]⟩ 8 hv hr hok hpre hsz) ?_
 intro w tape i _ _ _ hok hpre hholds
 obtain ⟨_,_,_,fn',hfn',_,_,_,_,hval⟩ := hok
 have e:fn' = fn := Option.some.inj (hfn'.symm.trans hfn)
 subst e
 obtain ⟨⟨ds,gs,before,hw,hc⟩,hz⟩ := hpre
 have hw' := DataW.Whole.of_heap (w' := w.forCall tape i) (by rfl) hw
 refine (law_calls (cx := cx) (hn := false) laidOut hps hk hres htb hvars hspec hpc law hval hw' (hz.weights hw)).mono fun e W' ⟨v,he,hp⟩=>?_
 subst he
 exact ChangeSpec.post_blind hp
end Go.Proofs.Tryz
