/- The statements of the seat out of functions of data: the laid world, the row, the card. -/
import Derived.Test.YtebmfbcngojbdaaGreatDoorCards
import Derived.Test.YtebmfbcngojbdaaGreatDoorTie
import Derived.Test.YtebmfbcngojbdaaGreatDoorXTkCx
import Derived.Test.YtebmfbcngojbdaaGreatDoorXSxQh
import Derived.LaidLaws
import Derived.Lib.LaidTab
import Derived.Stop.Joined
set_option maxRecDepth 100000
namespace Go.Proofs.Tryz
open Go Go.Sx Go.Proofs.YtebmfbcngojbdaaGreatDoor
theorem own:ownKnob prog.godebug=none:=by kernel_rfl
theorem laidOut:laidOutB prog=true:=by kernel_rfl
def Qfl:DataW Unit→Array Value
 |.agg l=>(l.filterMap fun d=>match d with|.lit (.int k n)=>some (Value.int k n)|.lit (.bool b)=>some (Value.bool b)|_=>none).toArray
 |_=>#[]
def setCells(cs:Array Value):Obj→Obj
 |.cells _ t frozen=>.cells cs t frozen
 |o=>o
noncomputable def Jh(os:Os):World:=
 {World.holding prog os ⟨#[],#[],[]⟩with heap:=((((World.holding prog os ⟨#[],#[],[]⟩).heap.modify 5 (setCells (Qfl Rows.laid_math_bits_deBruijn32tab))).modify 6 (setCells (Qfl Rows.laid_math_bits_deBruijn64tab))).modify 3 (setCells (Qfl Rows.laid_internal_strconv_uint64pow10))).modify 0 (setCells (Qfl Rows.laid_stadion_track_bends))}
def W5:List (String×DataW Unit):=Rows.trackHurdlesRow.laid
theorem Zf7(os:Os)(args:Array Value):laidMet prog W5 ((Jh os).forCall (fun _ _=>0) ⟨#[],args,[]⟩).memory:=
 laidMet_of_run' 8 (by kernel_rfl) (by kernel_rfl)
theorem Qmw{P:Program}{w:World}:∀{l:List (String×DataW Unit)} {ps:List MemPlace},DataW.LaidVars P w l ps→∀n d,(n,d)∈l→∃g t cs fuel p,P.globalNamed n=some g∧(P.globals[g]?).map (·.type)=some t∧w.var? P n=some cs∧DataW.trod (fun _=>()) P w 0 (fun _=>true) false fuel t cs.toList=some (d,p)
 |[],ps,h,n,d,hm=>by cases hm
 |(n',d')::r,ps,h,n,d,hm=>by
  obtain⟨g,t,cs,fuel,p,q,h1,h2,h3,h4,h5,h6⟩:=h;rcases List.mem_cons.1 hm with e|hm
  ·cases e;exact⟨g,t,cs,fuel,p,h1,h2,h3,h4⟩
  ·exact Qmw h5 n d hm
theorem Quf{P:Program}{w:World}{n:String}{g:Nat}{cs:Array Value}(hg:P.globalNamed n=some g)(h:w.var? P n=some cs):∃t z,w.heap[g]? =some (.cells cs t z):=by
 unfold World.var? at h;rw[hg,Option.bind_some]at h;split at h
 ·rename_i c t z e;cases h;exact⟨t,z,e⟩
 ·cases h
theorem Qif{w:World}(h:laidMet prog W5 w){n:String}{k:IntKind}{zs:List Int}{g:Nat}{t e:TypeId}{m:Nat}(hm:(n,Lib.tabData k zs)∈W5)(hg:prog.globalNamed n=some g)
  (hty:(prog.globals[g]?).map (·.type)=some t) (ht:prog.underlying t=some (.array m e)) (he:prog.underlying e=some (.int k)) (hce:prog.cellsOf e=1) (hct:prog.cellsOf t=m):
  ∃t z,w.heap[g]? =some (.cells (zs.map fun z=>Value.int k z).toArray t z):=by
 obtain⟨ps,hL,-⟩:=h;obtain⟨g',t',cs,fuel,p,h1,h2,h3,h4⟩:=Qmw hL _ _ hm;obtain rfl:=Option.some.inj (hg.symm.trans h1);obtain rfl:=Option.some.inj (hty.symm.trans h2);have:=Lib.cells_of_tab ht he hce hct h4;rw[←this];exact Quf hg h3
theorem Zpl{w:World}(h:laidMet prog W5 w){n:String}{bs:List Bool}{g:Nat}{t e:TypeId}{m:Nat}(hm:(n,(.agg (bs.map fun b=>.lit (.bool b)):DataW Unit))∈W5)(hg:prog.globalNamed n=some g)
  (hty:(prog.globals[g]?).map (·.type)=some t) (ht:prog.underlying t=some (.array m e)) (he:prog.underlying e=some .bool) (hce:prog.cellsOf e=1) (hct:prog.cellsOf t=m):
  ∃t z,w.heap[g]? =some (.cells (bs.map Value.bool).toArray t z):=by
 obtain⟨ps,hL,-⟩:=h;obtain⟨g',t',cs,fuel,p,h1,h2,h3,h4⟩:=Qmw hL _ _ hm;obtain rfl:=Option.some.inj (hg.symm.trans h1);obtain rfl:=Option.some.inj (hty.symm.trans h2);have:cs.toList=bs.map Value.bool:=by
  cases fuel with
  |zero=>simp[DataW.trod]at h4
  |succ fuel=>
   simp only[DataW.trod,ht,hce,hct,Nat.mul_one]at h4;split at h4
   ·rename_i hl;obtain⟨xs,hmm,hx⟩:=Option.map_eq_some_iff.1 h4;have hxs:xs.map (·.1)=bs.map fun b=>(DataW.lit (.bool b):DataW Unit):=by have:=congrArg Prod.fst hx;simpa using this
    have hxl:xs.length=m:=by simpa using Lib.mapM_length hmm
    have hzl:bs.length=m:=by have:=congrArg List.length hxs;simp at this;omega
    apply List.ext_getElem?;intro i;by_cases hi:i<m
    ·obtain⟨b,hb,hf⟩:=Lib.mapM_at hmm i i (by simp[hi]);obtain⟨z,hc,rfl⟩:=DataW.trod_bool he hf;have h1:cs.toList[i]? =some (.bool z):=by have:=congrArg (·[0]?) hc;simpa[List.getElem?_take,List.getElem?_drop]using this
     have h2:(xs.map (·.1))[i]? =some (DataW.lit (.bool z):DataW Unit):=by simp[hb]
     rw[hxs]at h2;simp only[List.getElem?_map,Option.map_eq_some_iff,DataW.lit.injEq,Lit.bool.injEq]at h2;obtain⟨z',hz',rfl⟩:=h2;simp[h1,hz']
    ·rw[List.getElem?_eq_none (by omega),List.getElem?_eq_none (by simp;omega)]
   ·cases h4
 have e2:cs=(bs.map Value.bool).toArray:=by rw[←this,Array.toArray_toList]
 rw[←e2];exact Quf hg h3
def zs5:List Int:=[0,1,28,2,29,14,24,3,30,22,20,15,25,17,4,8,31,27,13,23,21,19,16,7,26,12,18,6,11,5,10,9]
def zs6:List Int:=[0,1,56,2,57,49,28,3,61,58,42,50,38,29,17,4,62,47,59,36,45,43,51,22,53,39,33,30,24,18,12,5,63,55,48,27,60,41,37,16,46,35,44,21,52,32,23,11,54,26,40,15,34,20,31,10,25,14,19,9,13,8,7,6]
def zs3:List Int:=[1,10,100,1000,10000,100000,1000000,10000000,100000000,1000000000,10000000000,100000000000,1000000000000,10000000000000,100000000000000,1000000000000000,10000000000000000,100000000000000000,1000000000000000000,10000000000000000000]
theorem Zff{w:World}(h:laidMet prog W5 w):Vy (fun b=>w.heap[b]?):=by
 intro b cs hb;have h5:=Qif h (n:= "math/bits.deBruijn32tab") (k:=.u8) (zs:=zs5) (g:=5) (t:=229) (e:=5) (m:=32) (by exact .head _) (by kernel_rfl) (by kernel_rfl) (by kernel_rfl) (by kernel_rfl) (by kernel_rfl) (by kernel_rfl);have h6:=Qif h (n:= "math/bits.deBruijn64tab") (k:=.u8) (zs:=zs6) (g:=6) (t:=230) (e:=5) (m:=64) (by exact .tail _ (.head _)) (by kernel_rfl) (by kernel_rfl) (by kernel_rfl) (by kernel_rfl) (by kernel_rfl) (by kernel_rfl);have h3:=Qif h (n:= "internal/strconv.uint64pow10") (k:=.u64) (zs:=zs3) (g:=3) (t:=226) (e:=172) (m:=20) (by exact .tail _ (.tail _ (.head _))) (by kernel_rfl) (by kernel_rfl) (by kernel_rfl) (by kernel_rfl) (by kernel_rfl) (by kernel_rfl);have h0:=Zpl h (n:= "stadion/track.bends") (bs:=[true,false,true,false]) (g:=0) (t:=149) (e:=4) (m:=4) (by exact .tail _ (.tail _ (.tail _ (.head _)))) (by kernel_rfl) (by kernel_rfl) (by kernel_rfl) (by kernel_rfl) (by kernel_rfl) (by kernel_rfl);have hk:∀k v,Xm k=some v→k=0∨k=3∨k=5∨k=6:=fun k v hk=>by
  by_cases q0:k=0
  ·exact .inl q0
  by_cases q3:k=3
  ·exact .inr (.inl q3)
  by_cases q5:k=5
  ·exact .inr (.inr (.inl q5))
  by_cases q6:k=6
  ·exact .inr (.inr (.inr q6))
  have e:Qd8.lookup k=none:=by unfold Qd8;rw[List.lookup_cons,beq_false_of_ne q0,List.lookup_cons,beq_false_of_ne q3,List.lookup_cons,beq_false_of_ne q5,List.lookup_cons,beq_false_of_ne q6];rfl
  unfold Xm at hk;rw[e]at hk;cases hk
 rcases hk b cs hb with rfl|rfl|rfl|rfl
 ·obtain⟨t,z,e⟩:=h0;have e2:cs=_:=Option.some.inj (hb.symm.trans (show Xm 0=some _ from rfl));exact⟨t,z,by rw[e2];exact e⟩
 ·obtain⟨t,z,e⟩:=h3;have e2:cs=_:=Option.some.inj (hb.symm.trans (show Xm 3=some _ from rfl));exact⟨t,z,by rw[e2];exact e⟩
 ·obtain⟨t,z,e⟩:=h5;have e2:cs=_:=Option.some.inj (hb.symm.trans (show Xm 5=some _ from rfl));exact⟨t,z,by rw[e2];exact e⟩
 ·obtain⟨t,z,e⟩:=h6;have e2:cs=_:=Option.some.inj (hb.symm.trans (show Xm 6=some _ from rfl));exact⟨t,z,by rw[e2];exact e⟩
theorem Zlx{f:FuncId}{fn:Func}{s:ChangeSpec}{ats:List Qk}{c:Nat→Q8 ats→Option Bool}{tb:TypeId}(args0:Array Value)(os:Os)(started:os.Started)(H:Type)(enc:TypeId×Value→H)
  (hni:prog.inits.idxOf? f=none) (hfn:prog.funcs[f]? =some fn)
  (hv:((Jh os).forCall (fun _ _=>0) ⟨#[],args0,[]⟩).variablesB prog=true)
  (hr:((((Jh os).forCall (fun _ _=>0) ⟨#[],args0,[]⟩).heap.toList.drop prog.globals.size).take ((begin prog (fun _ _=>0) default).world.heap.size - prog.globals.size) =
   (begin prog (fun _ _=>0) default).world.heap.toList.drop prog.globals.size))
  (hok:Input.okWideB prog ((Jh os).forCall (fun _ _=>0) ⟨#[],args0,[]⟩) f ⟨#[],args0,[]⟩=true)
  (hpre:s.preB enc prog fn [] false ((Jh os).forCall (fun _ _=>0) ⟨#[],args0,[]⟩).memory args0 8=true)
  (hsz:s.sizedB enc prog fn false ((Jh os).forCall (fun _ _=>0) ⟨#[],args0,[]⟩).memory args0 8=true)
  (hps:(fn.params.toList.all fun t=>prog.readableRec t&&decide (t<prog.types.size))=true) (hk:K7 prog fn.params.toList=some ats)
  (hres:fn.resultTypes= #[tb]) (htb:prog.underlying tb=some .bool) (hvars:s.vars=[]) (hspec:∀ds:List (DataW H),ds.length=fn.params.toList.length→s.fn H ds={results:=[.lit (.bool true)],args:=ds})
  (hpc:∀F,Qw cx f ⟨ats,[.val .bool],c F⟩) (law:∀a,Q8.ok ats a→∃F,c F a=some true):
  ReturnsInHanded {} checked os f .any (fun w args=>(s.pre enc prog fn [] false w args∧laidMet prog W5 w)∧sizedMet enc prog fn (OpenSpec.ofChange s) false w args)
   (s.post enc prog fn false true false false):=by
 refine returnsInHanded_of_change_and (C:=checked) (X:=fun w _=>laidMet prog W5 w) (fun _ _ _ hh h=>h.of_heap hh) own started hni hfn
  (ChangeSpec.witness_at (enc:=enc) (C:=checked) (os:=os) (X:=fun w _=>laidMet prog W5 w) false (Jh os) args0 8 rfl hv hr hok hpre hsz (Zf7 os args0)) ?_
 intro W base args ds gs before hval hW _ hwt hx _;exact Zmi (hL:=Zff hx) (cx:=cx) laidOut hps hk hres htb hvars hspec hpc law hval hW hwt
end Go.Proofs.Tryz
