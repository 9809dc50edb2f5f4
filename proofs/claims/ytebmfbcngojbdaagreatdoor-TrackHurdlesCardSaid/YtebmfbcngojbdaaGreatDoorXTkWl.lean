/- The statements of the seat out of functions of data: the laid world, the row, the card. Functions of the program as functions of data. By program. And further parts. -/
import Derived.Test.YtebmfbcngojbdaaGreatDoorCards
import Derived.Test.YtebmfbcngojbdaaGreatDoorTie
import Derived.Test.YtebmfbcngojbdaaGreatDoorXTkCx
import Derived.Test.YtebmfbcngojbdaaGreatDoorXSxQh
import Derived.LaidLaws
import Derived.Lib.LaidTab
import Derived.Stop.Joined
set_option maxRecDepth 100000
set_option linter.all false
set_option linter.unusedVariables false
set_option linter.unusedSimpArgs false
namespace Go.Proofs.Tryz
open Go Go.Sx Go.Proofs.YtebmfbcngojbdaaGreatDoor
theorem own:ownKnob prog.godebug=none:=by kernel_rfl
theorem laidOut:laidOutB prog=true:=by kernel_rfl
def Qen:DataW Unit→Array Value
 |.agg l=>(l.filterMap fun d=>match d with|.lit (.int k n)=>some (Value.int k n)|.lit (.bool b)=>some (Value.bool b)|_=>none).toArray
 |_=>#[]
def setCells(cs:Array Value):Obj→Obj
 |.cells _ t frozen=>.cells cs t frozen
 |o=>o
noncomputable def Xy(os:Os):World:=
 {World.holding prog os ⟨#[],#[],[]⟩with heap:=((((World.holding prog os ⟨#[],#[],[]⟩).heap.modify 5 (setCells (Qen Rows.laid_math_bits_deBruijn32tab))).modify 6 (setCells (Qen Rows.laid_math_bits_deBruijn64tab))).modify 3 (setCells (Qen Rows.laid_internal_strconv_uint64pow10))).modify 0 (setCells (Qen Rows.laid_stadion_track_bends))}
def Wy:List (String×DataW Unit):=Rows.trackHurdlesRow.laid
theorem Ze0(os:Os)(args:Array Value):laidMet prog Wy ((Xy os).forCall (fun _ _=>0) ⟨#[],args,[]⟩).memory:=
 laidMet_of_run' 8 (by kernel_rfl) (by kernel_rfl)
theorem Qmb{P:Program}{w:World}:∀{l:List (String×DataW Unit)} {ps:List MemPlace},DataW.LaidVars P w l ps→∀n d,(n,d)∈l→∃g t cs fuel p,P.globalNamed n=some g∧(P.globals[g]?).map (·.type)=some t∧w.var? P n=some cs∧DataW.trod (fun _=>()) P w 0 (fun _=>true) false fuel t cs.toList=some (d,p)
 |[],ps,h,n,d,hm=>by cases hm
 |(n',d')::r,ps,h,n,d,hm=>by
  obtain⟨g,t,cs,fuel,p,q,h1,h2,h3,h4,h5,h6⟩:=h;rcases List.mem_cons.1 hm with e|hm
  ·cases e;exact⟨g,t,cs,fuel,p,h1,h2,h3,h4⟩
  ·exact Qmb h5 n d hm
theorem Qs5{P:Program}{w:World}{n:String}{g:Nat}{cs:Array Value}(hg:P.globalNamed n=some g)(h:w.var? P n=some cs):∃t z,w.heap[g]? =some (.cells cs t z):=by
 unfold World.var? at h;rw[hg,Option.bind_some]at h;split at h
 ·rename_i c t z e;cases h;exact⟨t,z,e⟩
 ·cases h
theorem Qj5{w:World}(h:laidMet prog Wy w){n:String}{k:IntKind}{zs:List Int}{g:Nat}{t e:TypeId}{m:Nat}(hm:(n,Lib.tabData k zs)∈Wy)(hg:prog.globalNamed n=some g)
  (hty:(prog.globals[g]?).map (·.type)=some t) (ht:prog.underlying t=some (.array m e)) (he:prog.underlying e=some (.int k)) (hce:prog.cellsOf e=1) (hct:prog.cellsOf t=m):
  ∃t z,w.heap[g]? =some (.cells (zs.map fun z=>Value.int k z).toArray t z):=by
 obtain⟨ps,hL,-⟩:=h;obtain⟨g',t',cs,fuel,p,h1,h2,h3,h4⟩:=Qmb hL _ _ hm;obtain rfl:=Option.some.inj (hg.symm.trans h1);obtain rfl:=Option.some.inj (hty.symm.trans h2);have:=Lib.cells_of_tab ht he hce hct h4;rw[←this];exact Qs5 hg h3
theorem Zea{w:World}(h:laidMet prog Wy w){n:String}{bs:List Bool}{g:Nat}{t e:TypeId}{m:Nat}(hm:(n,(.agg (bs.map fun b=>.lit (.bool b)):DataW Unit))∈Wy)(hg:prog.globalNamed n=some g)
  (hty:(prog.globals[g]?).map (·.type)=some t) (ht:prog.underlying t=some (.array m e)) (he:prog.underlying e=some .bool) (hce:prog.cellsOf e=1) (hct:prog.cellsOf t=m):
  ∃t z,w.heap[g]? =some (.cells (bs.map Value.bool).toArray t z):=by
 obtain⟨ps,hL,-⟩:=h;obtain⟨g',t',cs,fuel,p,h1,h2,h3,h4⟩:=Qmb hL _ _ hm;obtain rfl:=Option.some.inj (hg.symm.trans h1);obtain rfl:=Option.some.inj (hty.symm.trans h2);have:cs.toList=bs.map Value.bool:=by
  cases fuel with
  |zero=>simp[DataW.trod]at h4
  |succ fuel=>
   simp only[DataW.trod,ht,hce,hct,Nat.mul_one]at h4;split at h4
   ·rename_i hl;obtain⟨xs,hmm,hx⟩:=Option.map_eq_some_iff.1 h4;have hxs:xs.map (·.1)=bs.map fun b=>(DataW.lit (.bool b):DataW Unit):=by have:=congrArg Prod.fst hx;simpa using this
    have hxl:xs.length=m:=by simpa using Lib.mapM_length hmm
    have hzl:bs.length=m:=by have:=congrArg List.length hxs;simp at this;omega
    apply List.ext_getElem?;intro i;by_cases hi:i<m
    ·obtain⟨b,hb,hf⟩:=Lib.mapM_at hmm i i (by simp[hi]);obtain⟨z,hc,rfl⟩:=DataW.trod_bool he hf;have h1:cs.toList[i]? =some (.bool z):=by have:=congrArg (·[0]?) hc;simpa[List.getElem?_take,List.getElem?_drop]using this
     have h2:(xs.map (·.1))[i]? =some (DataW.lit (.bool z):DataW Unit):=by simp[hb]
     rw[hxs]at h2;simp only[List.getElem?_map,Option.map_eq_some_iff,DataW.lit.injEq,Lit.bool.injEq]at h2;obtain⟨z',hz',rfl⟩:=h2;simp[h1,hz']
    ·rw[List.getElem?_eq_none (by omega),List.getElem?_eq_none (by simp;omega)]
   ·cases h4
 have e2:cs=(bs.map Value.bool).toArray:=by rw[←this,Array.toArray_toList]
 rw[←e2];exact Qs5 hg h3
def zs5:List Int:=[0,1,28,2,29,14,24,3,30,22,20,15,25,17,4,8,31,27,13,23,21,19,16,7,26,12,18,6,11,5,10,9]
def zs6:List Int:=[0,1,56,2,57,49,28,3,61,58,42,50,38,29,17,4,62,47,59,36,45,43,51,22,53,39,33,30,24,18,12,5,63,55,48,27,60,41,37,16,46,35,44,21,52,32,23,11,54,26,40,15,34,20,31,10,25,14,19,9,13,8,7,6]
def zs3:List Int:=[1,10,100,1000,10000,100000,1000000,10000000,100000000,1000000000,10000000000,100000000000,1000000000000,10000000000000,100000000000000,1000000000000000,10000000000000000,100000000000000000,1000000000000000000,10000000000000000000]
theorem Zdq{w:World}(h:laidMet prog Wy w):Vd (fun b=>w.heap[b]?):=by
 intro b cs hb;have h5:=Qj5 h (n:= "math/bits.deBruijn32tab") (k:=.u8) (zs:=zs5) (g:=5) (t:=229) (e:=5) (m:=32) (by exact .head _) (by kernel_rfl) (by kernel_rfl) (by kernel_rfl) (by kernel_rfl) (by kernel_rfl) (by kernel_rfl);have h6:=Qj5 h (n:= "math/bits.deBruijn64tab") (k:=.u8) (zs:=zs6) (g:=6) (t:=230) (e:=5) (m:=64) (by exact .tail _ (.head _)) (by kernel_rfl) (by kernel_rfl) (by kernel_rfl) (by kernel_rfl) (by kernel_rfl) (by kernel_rfl);have h3:=Qj5 h (n:= "internal/strconv.uint64pow10") (k:=.u64) (zs:=zs3) (g:=3) (t:=226) (e:=172) (m:=20) (by exact .tail _ (.tail _ (.head _))) (by kernel_rfl) (by kernel_rfl) (by kernel_rfl) (by kernel_rfl) (by kernel_rfl) (by kernel_rfl);have h0:=Zea h (n:= "stadion/track.bends") (bs:=[true,false,true,false]) (g:=0) (t:=149) (e:=4) (m:=4) (by exact .tail _ (.tail _ (.tail _ (.head _)))) (by kernel_rfl) (by kernel_rfl) (by kernel_rfl) (by kernel_rfl) (by kernel_rfl) (by kernel_rfl);have hk:∀k v,Xa k=some v→k=0∨k=3∨k=5∨k=6:=fun k v hk=>by
  by_cases q0:k=0
  ·exact .inl q0
  by_cases q3:k=3
  ·exact .inr (.inl q3)
  by_cases q5:k=5
  ·exact .inr (.inr (.inl q5))
  by_cases q6:k=6
  ·exact .inr (.inr (.inr q6))
  have e:Qd4.lookup k=none:=by unfold Qd4;rw[List.lookup_cons,beq_false_of_ne q0,List.lookup_cons,beq_false_of_ne q3,List.lookup_cons,beq_false_of_ne q5,List.lookup_cons,beq_false_of_ne q6];rfl
  unfold Xa at hk;rw[e]at hk;cases hk
 rcases hk b cs hb with rfl|rfl|rfl|rfl
 ·obtain⟨t,z,e⟩:=h0;have e2:cs=_:=Option.some.inj (hb.symm.trans (show Xa 0=some _ from rfl));exact⟨t,z,by rw[e2];exact e⟩
 ·obtain⟨t,z,e⟩:=h3;have e2:cs=_:=Option.some.inj (hb.symm.trans (show Xa 3=some _ from rfl));exact⟨t,z,by rw[e2];exact e⟩
 ·obtain⟨t,z,e⟩:=h5;have e2:cs=_:=Option.some.inj (hb.symm.trans (show Xa 5=some _ from rfl));exact⟨t,z,by rw[e2];exact e⟩
 ·obtain⟨t,z,e⟩:=h6;have e2:cs=_:=Option.some.inj (hb.symm.trans (show Xa 6=some _ from rfl));exact⟨t,z,by rw[e2];exact e⟩
theorem Zc8{f:FuncId}{fn:Func}{s:ChangeSpec}{ats:List Qi}{c:Nat→Q6 ats→Option Bool}{tb:TypeId}(args0:Array Value)(os:Os)(started:os.Started)(H:Type)(enc:TypeId×Value→H)
  (hni:prog.inits.idxOf? f=none) (hfn:prog.funcs[f]? =some fn)
  (hv:((Xy os).forCall (fun _ _=>0) ⟨#[],args0,[]⟩).variablesB prog=true)
  (hr:((((Xy os).forCall (fun _ _=>0) ⟨#[],args0,[]⟩).heap.toList.drop prog.globals.size).take ((begin prog (fun _ _=>0) default).world.heap.size - prog.globals.size) =
   (begin prog (fun _ _=>0) default).world.heap.toList.drop prog.globals.size))
  (hok:Input.okWideB prog ((Xy os).forCall (fun _ _=>0) ⟨#[],args0,[]⟩) f ⟨#[],args0,[]⟩=true)
  (hpre:s.preB enc prog fn [] false ((Xy os).forCall (fun _ _=>0) ⟨#[],args0,[]⟩).memory args0 8=true)
  (hsz:s.sizedB enc prog fn false ((Xy os).forCall (fun _ _=>0) ⟨#[],args0,[]⟩).memory args0 8=true)
  (hps:(fn.params.toList.all fun t=>prog.readableRec t&&decide (t<prog.types.size))=true) (hk:Kq prog fn.params.toList=some ats)
  (hres:fn.resultTypes= #[tb]) (htb:prog.underlying tb=some .bool) (hvars:s.vars=[]) (hspec:∀ds:List (DataW H),ds.length=fn.params.toList.length→s.fn H ds={results:=[.lit (.bool true)],args:=ds})
  (hpc:∀F,Qz cx f ⟨ats,[.val .bool],c F⟩) (law:∀a,Q6.ok ats a→∃F,c F a=some true):
  ReturnsInHanded {} checked os f .any (fun w args=>(s.pre enc prog fn [] false w args∧laidMet prog Wy w)∧sizedMet enc prog fn (OpenSpec.ofChange s) false w args)
   (s.post enc prog fn false true false false):=by
 refine returnsInHanded_of_change_and (C:=checked) (X:=fun w _=>laidMet prog Wy w) (fun _ _ _ hh h=>h.of_heap hh) own started hni hfn
  (ChangeSpec.witness_at (enc:=enc) (C:=checked) (os:=os) (X:=fun w _=>laidMet prog Wy w) false (Xy os) args0 8 rfl hv hr hok hpre hsz (Ze0 os args0)) ?_
 intro W base args ds gs before hval hW _ hwt hx _;exact Zgq (hL:=Zdq hx) (cx:=cx) laidOut hps hk hres htb hvars hspec hpc law hval hW hwt
end Go.Proofs.Tryz
namespace Go.Proofs.Tryz
open Go Go.Sx
noncomputable def Qsm(F:Nat):Lx:={ext:=[],anns:=[],still:=[]}
noncomputable def c24(F:Nat)(a:Int×Int×Int):Option (Bool):=
 Option.bind (bif Decidable.decide (Prod.fst a<Prod.fst (Prod.snd a))then(some (Bool.true))else(some (Decidable.decide (Prod.snd (Prod.snd a)<Prod.fst a)))) fun(v5:Bool)=>some (v5)
noncomputable def Qqz(F:Nat):PC:={ats:=[.val (.int .i64),.val (.int .i64),.val (.int .i64)],rts:=[.val (.bool)],code:=c24 F}
theorem Zic(F:Nat):(Qsm F).Ok cx:=Lx.Y4
theorem Zg0(F:Nat)(a:Int×Int×Int):Zx cx (Qsm F) 1000 (.two .leaf (.two (.join [(.normal,⟨[.slot 6 (.val (.bool))],[]⟩)] ⟨[6,14,13,12,11,10,9,8,7],[],[]⟩ .leaf) .leaf)) f24 (Qe f24) [.val (.int .i64),.val (.int .i64),.val (.int .i64)] [.val (.bool)] a=c24 F a:=by kernel_rfl
theorem Zln(F:Nat):Qz cx 24 (Qqz F):=Qz.Qk Ql (Zic F) (n:=1000) (an:=(.two .leaf (.two (.join [(.normal,⟨[.slot 6 (.val (.bool))],[]⟩)] ⟨[6,14,13,12,11,10,9,8,7],[],[]⟩ .leaf) .leaf))) (fn:=f24) (c:=Qe f24) (by kernel_rfl) (by kernel_rfl) (fun a y h=>(Zg0 F a).trans h) (by kernel_rfl)
noncomputable def Qpc(F:Nat):Lx:={ext:=[],anns:=[],still:=[]}
noncomputable def c25(F:Nat)(a:List Int):Option (Int):=
 Option.bind (Z7 (σ:=Int) (β:=Int ⊕ Unit) (fun(v13:Int)=>bif Decidable.decide (v13<(↑(List.length a):Int))then(gd (Decidable.decide ((0:Int)≤v13)) (gd (Decidable.decide (v13<(↑(List.length a):Int))) (gd (Decidable.decide (Int.toNat v13<List.length a)) (bif !Decidable.decide (List.getD a (Int.toNat v13) (0:Int)=(0:Int))then(some (Sum.inr (Sum.inl (List.getD a (Int.toNat v13) (0:Int)))))else(some (Sum.inl (Go.Sx.w64 (v13+(1:Int)))))))))else(some (Sum.inr (Sum.inr Unit.unit)))) F ((0:Int))) fun(v10:Int ⊕ Unit)=>Sum.elim (fun(v11:Int)=>some (v11)) (fun(v12:Unit)=>some ((0:Int))) (v10)
noncomputable def Qud(F:Nat):PC:={ats:=[.val (.seq [.int .i64])],rts:=[.val (.int .i64)],code:=c25 F}
theorem Zhc(F:Nat):(Qpc F).Ok cx:=Lx.Y4
theorem Zk1(F:Nat)(a:List Int):Zx cx (Qpc F) 1000 (.two .leaf (.two (.two .leaf (.one (.loop ⟨[.slot 7 (.val (.int .i64))],[]⟩ [(.ret,⟨[.slot 2 (.val (.int .i64))],[]⟩),(.exit 0,⟨[],[]⟩)] ⟨[14,7,11,12,2,13,4,10,9,8],[],[]⟩ F .leaf))) .leaf)) f25 (Qe f25) [.val (.seq [.int .i64])] [.val (.int .i64)] a=c25 F a:=by kernel_rfl
theorem Zjt(F:Nat):Qz cx 25 (Qud F):=Qz.Qk Ql (Zhc F) (n:=1000) (an:=(.two .leaf (.two (.two .leaf (.one (.loop ⟨[.slot 7 (.val (.int .i64))],[]⟩ [(.ret,⟨[.slot 2 (.val (.int .i64))],[]⟩),(.exit 0,⟨[],[]⟩)] ⟨[14,7,11,12,2,13,4,10,9,8],[],[]⟩ F .leaf))) .leaf))) (fn:=f25) (c:=Qe f25) (by kernel_rfl) (by kernel_rfl) (fun a y h=>(Zk1 F a).trans h) (by kernel_rfl)
noncomputable def Qpy(F:Nat):Lx:={ext:=[],anns:=[],still:=[]}
noncomputable def c27(F:Nat)(a:Bool×Int):Option (Int):=
 bif Prod.fst a then(some (Prod.snd a))else(some ((0:Int)))
noncomputable def Qgi(F:Nat):PC:={ats:=[.val (.bool),.val (.int .i64)],rts:=[.val (.int .i64)],code:=c27 F}
theorem Qxz(F:Nat):(Qpy F).Ok cx:=Lx.Y4
theorem Zmq(F:Nat)(a:Bool×Int):Zx cx (Qpy F) 1000 .leaf f27 (Qe f27) [.val (.bool),.val (.int .i64)] [.val (.int .i64)] a=c27 F a:=by kernel_rfl
theorem Qva(F:Nat):Qz cx 27 (Qgi F):=Qz.Qk Ql (Qxz F) (n:=1000) (an:=.leaf) (fn:=f27) (c:=Qe f27) (by kernel_rfl) (by kernel_rfl) (fun a y h=>(Zmq F a).trans h) (by kernel_rfl)
noncomputable def Quz(F:Nat):Lx:={ext:=[(27,(Qgi F).sm)],anns:=[],still:=[]}
noncomputable def c26(F:Nat)(a:Int×Int×Int):Option (Int):=
 Option.bind (bif Decidable.decide (Prod.fst a<Prod.fst (Prod.snd a))then(some ((3:Int)))else(Option.bind (Go.Proofs.Tryz.c27 F (Decidable.decide (Prod.snd (Prod.snd a)<Prod.fst a),(3:Int))) fun(v9:Int)=>some (v9))) fun(v8:Int)=>some (v8)
noncomputable def Qsn(F:Nat):PC:={ats:=[.val (.int .i64),.val (.int .i64),.val (.int .i64)],rts:=[.val (.int .i64)],code:=c26 F}
theorem Qyn(F:Nat):(Quz F).Ok cx:=Lx.Za (PC.Zn (Qva F)) (Lx.Y4)
theorem Qzp(F:Nat)(a:Int×Int×Int):Zx cx (Quz F) 1000 (.two .leaf (.two (.join [(.normal,⟨[.slot 6 (.val (.int .i64))],[]⟩)] ⟨[6,15,14,13,12,11,10,9,8,7],[],[]⟩ .leaf) .leaf)) f26 (Qe f26) [.val (.int .i64),.val (.int .i64),.val (.int .i64)] [.val (.int .i64)] a=c26 F a:=by kernel_rfl
theorem Zc0(F:Nat):Qz cx 26 (Qsn F):=Qz.Qk Ql (Qyn F) (n:=1000) (an:=(.two .leaf (.two (.join [(.normal,⟨[.slot 6 (.val (.int .i64))],[]⟩)] ⟨[6,15,14,13,12,11,10,9,8,7],[],[]⟩ .leaf) .leaf))) (fn:=f26) (c:=Qe f26) (by kernel_rfl) (by kernel_rfl) (fun a y h=>(Qzp F a).trans h) (by kernel_rfl)
noncomputable def Qqa(F:Nat):Lx:={ext:=[],anns:=[],still:=[]}
noncomputable def c10(F:Nat)(a:List Int×List Int):Option (Bool):=
 bif !Decidable.decide ((↑(List.length (Prod.fst a)):Int)=(↑(List.length (Prod.snd a)):Int))then(some (Bool.false))else(Option.bind (Z7 (σ:=Int) (β:=Bool ⊕ Unit) (fun(v13:Int)=>bif Decidable.decide (v13<(↑(List.length (Prod.fst a)):Int))then(gd (Decidable.decide ((0:Int)≤v13)) (gd (Decidable.decide (v13<(↑(List.length (Prod.fst a)):Int))) (gd (Decidable.decide (Int.toNat v13<List.length (Prod.fst a))) (gd (Decidable.decide ((0:Int)≤v13)) (gd (Decidable.decide (v13<(↑(List.length (Prod.snd a)):Int))) (gd (Decidable.decide (Int.toNat v13<List.length (Prod.snd a))) (bif !Decidable.decide (List.getD (Prod.fst a) (Int.toNat v13) (0:Int)=List.getD (Prod.snd a) (Int.toNat v13) (0:Int))then(some (Sum.inr (Sum.inl Bool.false)))else(some (Sum.inl (Go.Sx.w64 (v13+(1:Int))))))))))))else(some (Sum.inr (Sum.inr Unit.unit)))) F ((0:Int))) fun(v10:Bool ⊕ Unit)=>Sum.elim (fun(v11:Bool)=>some (v11)) (fun(v12:Unit)=>some (Bool.true)) (v10))
noncomputable def Qmm(F:Nat):PC:={ats:=[.val (.seq [.int .i64]),.val (.seq [.int .i64])],rts:=[.val (.bool)],code:=c10 F}
theorem Zme(F:Nat):(Qqa F).Ok cx:=Lx.Y4
theorem Zgf(F:Nat)(a:List Int×List Int):Zx cx (Qqa F) 1000 (.two .leaf (.two .leaf (.two (.two .leaf (.one (.loop ⟨[.slot 5 (.val (.int .i64))],[]⟩ [(.ret,⟨[.slot 4 (.val (.bool))],[]⟩),(.exit 0,⟨[],[]⟩)] ⟨[17,18,19,20,21,22,23,24,25,4,5,16,15,14,13,12,11],[],[]⟩ F .leaf))) .leaf))) f10 (Qe f10) [.val (.seq [.int .i64]),.val (.seq [.int .i64])] [.val (.bool)] a=c10 F a:=by kernel_rfl
theorem Qtm(F:Nat):Qz cx 10 (Qmm F):=Qz.Qk Ql (Zme F) (n:=1000) (an:=(.two .leaf (.two .leaf (.two (.two .leaf (.one (.loop ⟨[.slot 5 (.val (.int .i64))],[]⟩ [(.ret,⟨[.slot 4 (.val (.bool))],[]⟩),(.exit 0,⟨[],[]⟩)] ⟨[17,18,19,20,21,22,23,24,25,4,5,16,15,14,13,12,11],[],[]⟩ F .leaf))) .leaf)))) (fn:=f10) (c:=Qe f10) (by kernel_rfl) (by kernel_rfl) (fun a y h=>(Zgf F a).trans h) (by kernel_rfl)
noncomputable def lx6(F:Nat):Lx:={ext:=[(24,(Qqz F).sm)],anns:=[],still:=[]}
noncomputable def c6(F:Nat)(a:(Int×Int×Int×Int)×Int):Option (Int):=
 Option.bind (Option.bind (Go.Proofs.Tryz.c24 F (Prod.fst (Prod.fst a),(1:Int),(999999:Int))) fun(v21:Bool)=>bif v21 then(some (Bool.true))else(Option.bind (Go.Proofs.Tryz.c24 F (Prod.fst (Prod.snd (Prod.fst a)),(1:Int),(999999:Int))) fun(v22:Bool)=>bif v22 then(some (Bool.true))else(Option.bind (Go.Proofs.Tryz.c24 F (Prod.fst (Prod.snd (Prod.snd (Prod.fst a))),(1:Int),(999999:Int))) fun(v23:Bool)=>bif v23 then(some (Bool.true))else(Option.bind (Go.Proofs.Tryz.c24 F (Prod.snd (Prod.snd (Prod.snd (Prod.fst a))),(1:Int),(64:Int))) fun(v24:Bool)=>bif v24 then(some (Bool.true))else(Option.bind (Go.Proofs.Tryz.c24 F (Prod.snd a,(1:Int),(999999999:Int))) fun(v25:Bool)=>some (v25)))))) fun(v20:Bool)=>bif v20 then(some ((3:Int)))else(bif !Decidable.decide (Go.Sx.w64 (Go.Sx.w64 (Prod.fst (Prod.fst a)+Go.Sx.w64 (Go.Sx.w64 (Prod.snd (Prod.snd (Prod.snd (Prod.fst a)))-(1:Int))*Prod.fst (Prod.snd (Prod.fst a))))+Prod.fst (Prod.snd (Prod.snd (Prod.fst a))))=Prod.snd a)then(some ((16:Int)))else(some ((0:Int))))
noncomputable def pc6(F:Nat):PC:={ats:=[.agg [.int .i64,.int .i64,.int .i64,.int .i64],.val (.int .i64)],rts:=[.val (.int .i64)],code:=c6 F}
theorem Zmd(F:Nat):(lx6 F).Ok cx:=Lx.Za (PC.Zn (Zln F)) (Lx.Y4)
theorem Qx3(F:Nat)(a:(Int×Int×Int×Int)×Int):Zx cx (lx6 F) 1000 (.two .leaf (.two (.two (.join [(.normal,⟨[.slot 26 (.val (.bool))],[]⟩)] ⟨[26,25,24,23,22,21,20,19,18,17,16,15,14,13,12,11,10,9,8,7,6,5],[],[]⟩ .leaf) .leaf) .leaf)) f6 (Qe f6) [.agg [.int .i64,.int .i64,.int .i64,.int .i64],.val (.int .i64)] [.val (.int .i64)] a=c6 F a:=by kernel_rfl
theorem Zlj(F:Nat):Qz cx 6 (pc6 F):=Qz.Qk Ql (Zmd F) (n:=1000) (an:=(.two .leaf (.two (.two (.join [(.normal,⟨[.slot 26 (.val (.bool))],[]⟩)] ⟨[26,25,24,23,22,21,20,19,18,17,16,15,14,13,12,11,10,9,8,7,6,5],[],[]⟩ .leaf) .leaf) .leaf))) (fn:=f6) (c:=Qe f6) (by kernel_rfl) (by kernel_rfl) (fun a y h=>(Qx3 F a).trans h) (by kernel_rfl)
noncomputable def lx8(F:Nat):Lx:={ext:=[],anns:=[],still:=[]}
noncomputable def c8(F:Nat)(a:Int×Int×Int×Int):Option (List Int):=
 Option.bind (Z7 (σ:=List Int×Int) (β:=List Int) (fun(v10:List Int×Int)=>bif Decidable.decide (Prod.snd v10<Prod.snd (Prod.snd (Prod.snd a)))then(gd (Decidable.decide (List.length (Prod.fst v10)=List.length (Prod.fst v10))) (gd (Decidable.decide (List.length (Prod.fst v10++Go.Sx.w64 (Prod.fst a+Go.Sx.w64 (Prod.snd v10*Prod.fst (Prod.snd a)))::Go.Sx.nilT Int)*(8:Nat)≤(140737488355328:Nat))) (gd (Decidable.decide (List.length (Prod.fst v10++Go.Sx.w64 (Prod.fst a+Go.Sx.w64 (Prod.snd v10*Prod.fst (Prod.snd a)))::Go.Sx.nilT Int)≤(9223372036854775807:Nat))) (Option.bind (gd (Decidable.decide (List.length (Prod.fst v10++Go.Sx.w64 (Prod.fst a+Go.Sx.w64 (Prod.snd v10*Prod.fst (Prod.snd a)))::Go.Sx.nilT Int)=List.length (Prod.fst v10++Go.Sx.w64 (Prod.fst a+Go.Sx.w64 (Prod.snd v10*Prod.fst (Prod.snd a)))::Go.Sx.nilT Int))&&Bool.true&&(Bool.true&&Bool.true)) (some ((Prod.fst v10++Go.Sx.w64 (Prod.fst a+Go.Sx.w64 (Prod.snd v10*Prod.fst (Prod.snd a)))::Go.Sx.nilT Int,Go.Sx.w64 (Prod.snd v10+(1:Int)))))) fun(v11:List Int×Int)=>some (Sum.inl v11)))))else(Option.bind (gd (Decidable.decide (List.length (Prod.fst v10)=List.length (Prod.fst v10))&&Bool.true&&Bool.true) (some (Prod.fst v10))) fun(v12:List Int)=>some (Sum.inr v12))) F ((Go.Sx.nilT Int,(0:Int)))) fun(v9:List Int)=>gd (Decidable.decide ((0:Nat)+List.length v9≤List.length v9)) (some (List.take (List.length v9) (List.drop (0:Nat) v9)))
noncomputable def pc8(F:Nat):PC:={ats:=[.agg [.int .i64,.int .i64,.int .i64,.int .i64]],rts:=[.val (.seq [.int .i64])],code:=c8 F}
theorem Qwr(F:Nat):(lx8 F).Ok cx:=Lx.Y4
theorem Zhw(F:Nat)(a:Int×Int×Int×Int):Zx cx (lx8 F) 1000 (.two .leaf (.two .leaf (.two (.two .leaf (.one (.virt 3 3 [.int .i64] (.loop ⟨[.vec 1 3 [.int .i64],.slot 4 (.val (.int .i64))],[(3,.own 1)]⟩ [(.exit 0,⟨[.vec 1 3 [.int .i64]],[(3,.own 1)]⟩)] ⟨[11,12,13,14,15,16,17,18,19,20,3,4,10,9,8,7,6,5],[1],[1]⟩ F .leaf)))) .leaf))) f8 (Qe f8) [.agg [.int .i64,.int .i64,.int .i64,.int .i64]] [.val (.seq [.int .i64])] a=c8 F a:=by kernel_rfl
theorem Qwc(F:Nat):Qz cx 8 (pc8 F):=Qz.Qk Ql (Qwr F) (n:=1000) (an:=(.two .leaf (.two .leaf (.two (.two .leaf (.one (.virt 3 3 [.int .i64] (.loop ⟨[.vec 1 3 [.int .i64],.slot 4 (.val (.int .i64))],[(3,.own 1)]⟩ [(.exit 0,⟨[.vec 1 3 [.int .i64]],[(3,.own 1)]⟩)] ⟨[11,12,13,14,15,16,17,18,19,20,3,4,10,9,8,7,6,5],[1],[1]⟩ F .leaf)))) .leaf)))) (fn:=f8) (c:=Qe f8) (by kernel_rfl) (by kernel_rfl) (fun a y h=>(Zhw F a).trans h) (by kernel_rfl)
noncomputable def lx9(F:Nat):Lx:={ext:=[(25,(Qud F).sm),(27,(Qgi F).sm),(26,(Qsn F).sm)],anns:=[],still:=[]}
noncomputable def c9(F:Nat)(a:(Int×Int×Int×Int)×Int):Option (Int):=
 Option.bind (Go.Proofs.Tryz.c26 F (Prod.fst (Prod.fst a),(1:Int),(999999:Int))) fun(v17:Int)=>Option.bind (Go.Proofs.Tryz.c26 F (Prod.fst (Prod.snd (Prod.fst a)),(1:Int),(999999:Int))) fun(v18:Int)=>Option.bind (Go.Proofs.Tryz.c26 F (Prod.fst (Prod.snd (Prod.snd (Prod.fst a))),(1:Int),(999999:Int))) fun(v19:Int)=>Option.bind (Go.Proofs.Tryz.c26 F (Prod.snd (Prod.snd (Prod.snd (Prod.fst a))),(1:Int),(64:Int))) fun(v20:Int)=>Option.bind (Go.Proofs.Tryz.c26 F (Prod.snd a,(1:Int),(999999999:Int))) fun(v21:Int)=>Option.bind (Go.Proofs.Tryz.c27 F (!Decidable.decide (Go.Sx.w64 (Go.Sx.w64 (Prod.fst (Prod.fst a)+Go.Sx.w64 (Go.Sx.w64 (Prod.snd (Prod.snd (Prod.snd (Prod.fst a)))-(1:Int))*Prod.fst (Prod.snd (Prod.fst a))))+Prod.fst (Prod.snd (Prod.snd (Prod.fst a))))=Prod.snd a),(16:Int))) fun(v22:Int)=>Option.bind (Go.Proofs.Tryz.c25 F (v17::v18::v19::v20::v21::v22::Go.Sx.nilT Int)) fun(v23:Int)=>some (v23)
noncomputable def pc9(F:Nat):PC:={ats:=[.agg [.int .i64,.int .i64,.int .i64,.int .i64],.val (.int .i64)],rts:=[.val (.int .i64)],code:=c9 F}
theorem Za3(F:Nat):(lx9 F).Ok cx:=Lx.Za (PC.Zn (Zjt F)) (Lx.Za (PC.Zn (Qva F)) (Lx.Za (PC.Zn (Zc0 F)) (Lx.Y4)))
theorem Qwt(F:Nat)(a:(Int×Int×Int×Int)×Int):Zx cx (lx9 F) 1000 .leaf f9 (Qe f9) [.agg [.int .i64,.int .i64,.int .i64,.int .i64],.val (.int .i64)] [.val (.int .i64)] a=c9 F a:=by kernel_rfl
theorem Quv(F:Nat):Qz cx 9 (pc9 F):=Qz.Qk Ql (Za3 F) (n:=1000) (an:=.leaf) (fn:=f9) (c:=Qe f9) (by kernel_rfl) (by kernel_rfl) (fun a y h=>(Qwt F a).trans h) (by kernel_rfl)
noncomputable def lx7(F:Nat):Lx:={ext:=[(9,(pc9 F).sm)],anns:=[],still:=[]}
noncomputable def c7(F:Nat)(a:(Int×Int×Int×Int)×Int):Option (List Int×Int):=
 Option.bind (Go.Proofs.Tryz.c9 F ((Prod.fst (Prod.fst a),Prod.fst (Prod.snd (Prod.fst a)),Prod.fst (Prod.snd (Prod.snd (Prod.fst a))),Prod.snd (Prod.snd (Prod.snd (Prod.fst a)))),Prod.snd a)) fun(v11:Int)=>bif !Decidable.decide (v11=(0:Int))then(some ((Go.Sx.nilT Int,v11)))else(Option.bind (Z7 (σ:=List Int×Int) (β:=List Int) (fun(v13:List Int×Int)=>bif Decidable.decide (Prod.snd v13<Prod.snd (Prod.snd (Prod.snd (Prod.fst a))))then(gd (Decidable.decide (List.length (Prod.fst v13)=List.length (Prod.fst v13))) (gd (Decidable.decide (List.length (Prod.fst v13++Go.Sx.w64 (Prod.fst (Prod.fst a)+Go.Sx.w64 (Prod.snd v13*Prod.fst (Prod.snd (Prod.fst a))))::Go.Sx.nilT Int)*(8:Nat)≤(140737488355328:Nat))) (gd (Decidable.decide (List.length (Prod.fst v13++Go.Sx.w64 (Prod.fst (Prod.fst a)+Go.Sx.w64 (Prod.snd v13*Prod.fst (Prod.snd (Prod.fst a))))::Go.Sx.nilT Int)≤(9223372036854775807:Nat))) (Option.bind (gd (Decidable.decide (List.length (Prod.fst v13++Go.Sx.w64 (Prod.fst (Prod.fst a)+Go.Sx.w64 (Prod.snd v13*Prod.fst (Prod.snd (Prod.fst a))))::Go.Sx.nilT Int)=List.length (Prod.fst v13++Go.Sx.w64 (Prod.fst (Prod.fst a)+Go.Sx.w64 (Prod.snd v13*Prod.fst (Prod.snd (Prod.fst a))))::Go.Sx.nilT Int))&&Bool.true&&(Bool.true&&Bool.true)) (some ((Prod.fst v13++Go.Sx.w64 (Prod.fst (Prod.fst a)+Go.Sx.w64 (Prod.snd v13*Prod.fst (Prod.snd (Prod.fst a))))::Go.Sx.nilT Int,Go.Sx.w64 (Prod.snd v13+(1:Int)))))) fun(v14:List Int×Int)=>some (Sum.inl v14)))))else(Option.bind (gd (Decidable.decide (List.length (Prod.fst v13)=List.length (Prod.fst v13))&&Bool.true&&Bool.true) (some (Prod.fst v13))) fun(v15:List Int)=>some (Sum.inr v15))) F ((Go.Sx.nilT Int,(0:Int)))) fun(v12:List Int)=>gd (Decidable.decide ((0:Nat)+List.length v12≤List.length v12)&&Bool.true) (some ((List.take (List.length v12) (List.drop (0:Nat) v12),(0:Int)))))
noncomputable def pc7(F:Nat):PC:={ats:=[.agg [.int .i64,.int .i64,.int .i64,.int .i64],.val (.int .i64)],rts:=[.val (.seq [.int .i64]),.val (.int .i64)],code:=c7 F}
theorem Zmu(F:Nat):(lx7 F).Ok cx:=Lx.Za (PC.Zn (Quv F)) (Lx.Y4)
theorem Zk4(F:Nat)(a:(Int×Int×Int×Int)×Int):Zx cx (lx7 F) 1000 (.two .leaf (.two .leaf (.two .leaf (.two (.two .leaf (.one (.virt 7 3 [.int .i64] (.loop ⟨[.vec 1 3 [.int .i64],.slot 17 (.val (.int .i64))],[(7,.own 1)]⟩ [(.exit 0,⟨[.vec 1 3 [.int .i64]],[(7,.own 1)]⟩)] ⟨[30,17,20,21,22,23,24,25,26,27,28,29,7,8,19,18],[1],[1]⟩ F .leaf)))) .leaf)))) f7 (Qe f7) [.agg [.int .i64,.int .i64,.int .i64,.int .i64],.val (.int .i64)] [.val (.seq [.int .i64]),.val (.int .i64)] a=c7 F a:=by kernel_rfl
theorem Qzr(F:Nat):Qz cx 7 (pc7 F):=Qz.Qk Ql (Zmu F) (n:=1000) (an:=(.two .leaf (.two .leaf (.two .leaf (.two (.two .leaf (.one (.virt 7 3 [.int .i64] (.loop ⟨[.vec 1 3 [.int .i64],.slot 17 (.val (.int .i64))],[(7,.own 1)]⟩ [(.exit 0,⟨[.vec 1 3 [.int .i64]],[(7,.own 1)]⟩)] ⟨[30,17,20,21,22,23,24,25,26,27,28,29,7,8,19,18],[1],[1]⟩ F .leaf)))) .leaf))))) (fn:=f7) (c:=Qe f7) (by kernel_rfl) (by kernel_rfl) (fun a y h=>(Zk4 F a).trans h) (by kernel_rfl)
def Z8:List Int→Int
 |[]=>0
 |x::l=>if x=0 then Z8 l else x
theorem Zg1{l:List Int}{k:Nat}(hk:k<l.length):Z8 (l.drop k)=if l.getD k 0=0 then Z8 (l.drop (k+1))else l.getD k 0:=by rw[List.drop_eq_getElem_cons hk];simp only[Z8,List.getD,List.getElem?_eq_getElem hk,Option.getD_some]
theorem l25{F:Nat}{l:List Int}(hF:l.length<F)(hl:l.length≤1000):c25 F l=some (Z8 l):=by
 unfold c25;obtain⟨b,h1,h2⟩:=Qun (step:=fun(v13:Int)=>bif Decidable.decide (v13<(↑(List.length l):Int))then(gd (Decidable.decide ((0:Int)≤v13)) (gd (Decidable.decide (v13<(↑(List.length l):Int))) (gd (Decidable.decide (Int.toNat v13<List.length l)) (bif !Decidable.decide (List.getD l (Int.toNat v13) (0:Int)=(0:Int))then(some (Sum.inr (Sum.inl (List.getD l (Int.toNat v13) (0:Int)))))else(some (Sum.inl (Go.Sx.w64 (v13+(1:Int)))))))))else(some (Sum.inr (Sum.inr Unit.unit))))
  (fun v=>0≤v∧v≤l.length∧Z8 l=Z8 (l.drop v.toNat)) (fun v=>l.length-v.toNat) (fun b=>Sum.elim (fun(v11:Int)=>some (v11)) (fun(v12:Unit)=>some ((0:Int))) b=some (Z8 l))
  (fun v ⟨h0,h1,h2⟩=>by
   by_cases hv:v<l.length
   ·have hk:v.toNat<l.length:=by omega
    simp only[h0,hv,hk,decide_true,cond_true,V1];rw[Zg1 hk]at h2;by_cases hz:l.getD v.toNat 0=0
    ·left;refine⟨v+1,?_,⟨by omega,by omega,?_⟩,by omega⟩
     ·simp only[hz,decide_true,Bool.not_true,cond_false];rw[Qde (by omega) (by omega)]
     ·rw[if_pos hz]at h2;rw[h2,show(v+1).toNat=v.toNat+1 by omega]
    ·right;refine⟨.inl (l.getD v.toNat 0),by simp only[hz,decide_false,Bool.not_false,cond_true],?_⟩;rw[if_neg hz]at h2;simp[h2]
   ·right;refine⟨.inr (),by simp only[hv,decide_false,cond_false],?_⟩;have:v.toNat=l.length:=by omega
    rw[this,List.drop_length]at h2;simp[h2,Z8])
  F 0 ⟨by omega,by omega,by simp⟩ (by simpa using hF)
 rw[h1];exact h2
theorem Qwe{α β:Type}(p:α×β):(p.1,p.2)=p:=rfl
theorem Qsh{n i x:Nat}(h:(List.range n)[i]? =some x):x=i:=by
 by_cases hi:i<n
 ·rw[List.getElem?_range hi]at h;exact(Option.some.inj h).symm
 ·rw[List.getElem?_eq_none (by simp;omega)]at h;cases h
theorem l24(F:Nat)(n lo hi:Int):c24 F (n,lo,hi)=some (decide (n<lo∨hi<n)):=by unfold c24;by_cases h1:n<lo<;>by_cases h2:hi<n<;>simp[h1,h2]
theorem l27(F:Nat)(b:Bool)(e:Int):c27 F (b,e)=some (if b=true then e else 0):=by unfold c27;cases b<;>rfl
def wiE(n lo hi:Int):Int:=if n<lo∨hi<n then 3 else 0
theorem l26(F:Nat)(n lo hi:Int):c26 F (n,lo,hi)=some (wiE n lo hi):=by unfold c26 wiE;by_cases h1:n<lo<;>by_cases h2:hi<n<;>simp[h1,h2,l27]
abbrev Hd:=Int×Int×Int×Int
def Ja(h:Hd)(d:Int):Int:=Z8 [wiE h.1 1 999999,wiE h.2.1 1 999999,wiE h.2.2.1 1 999999,wiE h.2.2.2 1 64,wiE d 1 999999999,if(!decide (w64 (w64 (h.1+w64 (w64 (h.2.2.2-1)*h.2.1))+h.2.2.1)=d))=true then 16 else 0]
theorem l9{F:Nat}(hF:400≤F)(h:Hd)(d:Int):c9 F (h,d)=some (Ja h d):=by unfold c9 Ja;simp only[l26,l27,Option.bind_some,l25 (F:=F) (l:=_::_::_::_::_::_::nilT Int) (by simp[nilT];omega) (by simp[nilT])];rfl
theorem l6(F:Nat)(h:Hd)(d:Int):c6 F (h,d)=some (Ja h d):=by
 unfold c6 Ja wiE;simp only[l24,Option.bind_some];by_cases h1:h.1<1∨999999<h.1
 ·simp[h1,Z8]
 ·by_cases h2:h.2.1<1∨999999<h.2.1
  ·simp[h1,h2,Z8]
  ·by_cases h3:h.2.2.1<1∨999999<h.2.2.1
   ·simp[h1,h2,h3,Z8]
   ·by_cases h4:h.2.2.2<1∨64<h.2.2.2
    ·simp[h1,h2,h3,h4,Z8]
    ·by_cases h5:d<1∨999999999<d
     ·simp[h1,h2,h3,h4,h5,Z8]
     ·generalize w64 (w64 (h.1+w64 (w64 (h.2.2.2-1)*h.2.1))+h.2.2.1)=s;by_cases h6:s=d<;>simp[h1,h2,h3,h4,h5,h6,Z8]
def Vs(h:Hd):List Int:=(List.range h.2.2.2.toNat).map fun(i:Nat)=>w64 (h.1+w64 ((i:Int)*h.2.1))
theorem l8{F:Nat}(hF:400≤F){a b c:Int}{n:Nat}(hn:n≤64):c8 F (a,b,c,(n:Int))=some (Vs (a,b,c,(n:Int))):=by
 have e:∀y:Int,y::nilT Int=[y]:=fun _=>rfl;unfold c8 Vs;refine Qh6 (List.range n) (fun out i=>(out,(i:Int))) (fun x out=>.inl (out++[w64 (a+w64 ((x:Int)*b))])) (fun out=>out) (fun i (out:List Int)=>out.length=i) (nilT Int) (by simp;omega) rfl rfl ?_ ?_ ?_
 ·intro i x out hi hx ho;obtain rfl:=Qsh hx;simp only[List.length_range]at hi;have hl2:(out++[w64 (a+w64 ((x:Int)*b))]).length=x+1:=by simp[ho]
  refine⟨?_,fun s' hs=>?_⟩
  ·simp(disch:=omega)only[Qmr,Qb2,Qde,e,hl2,decide_true,Bool.and_self,Bool.and_true,V1,Option.bind_some];rfl
  ·simp only[Sum.inl.injEq]at hs;subst hs;exact hl2
 ·intro out ho;simp(disch:=omega)only[Qfg,List.length_range,decide_true,Bool.and_self,Bool.and_true,V1,Option.bind_some]
 ·rw[Qks (fun x:Nat=>w64 (a+w64 ((x:Int)*b)))];simp(disch:=omega)only[Qb2,Nat.zero_add,Nat.le_refl,List.drop_zero,List.take_length,decide_true,Bool.and_self,Bool.and_true,V1,Int.toNat_natCast];rfl
theorem l7{F:Nat}(hF:400≤F)(h:Hd)(d:Int):c7 F (h,d)=some (if Ja h d=0 then(Vs h,0)else([],Ja h d)):=by
 have e:∀y:Int,y::nilT Int=[y]:=fun _=>rfl;obtain⟨a,b,c,n⟩:=h;unfold c7;simp only[l9 hF,Option.bind_some];by_cases hv:Ja (a,b,c,n) d=0
 ·have h4:wiE n 1 64=0:=by
   unfold Ja Z8 at hv;simp only[Z8]at hv;by_cases h4:wiE n 1 64=0
   ·exact h4
   ·exfalso;by_cases h1:wiE a 1 999999=0
    ·by_cases h2:wiE b 1 999999=0
     ·by_cases h3:wiE c 1 999999=0
      ·simp[h1,h2,h3,h4]at hv
      ·simp[h1,h2,h3]at hv
     ·simp[h1,h2]at hv
    ·simp[h1]at hv
  unfold wiE at h4;have h4':1≤n∧n≤64:=by
   by_cases q:n<1∨64<n
   ·rw[if_pos q]at h4;exact absurd h4 (by decide)
   ·omega
  obtain⟨k,rfl⟩:∃k:Nat,n=(k:Int):=⟨n.toNat,by omega⟩;have hk:k≤64:=by omega
  simp only[hv,decide_true,Bool.not_true,cond_false,if_true];have h8:=l8 (F:=F) hF (a:=a) (b:=b) (c:=c) hk;unfold Vs at h8⊢;refine Qh6 (List.range k) (fun out i=>(out,(i:Int))) (fun x out=>.inl (out++[w64 (a+w64 ((x:Int)*b))])) (fun out=>out) (fun i (out:List Int)=>out.length=i) (nilT Int) (by simp;omega) rfl rfl ?_ ?_ ?_
  ·intro i x out hi hx ho;obtain rfl:=Qsh hx;simp only[List.length_range]at hi;have hl2:(out++[w64 (a+w64 ((x:Int)*b))]).length=x+1:=by simp[ho]
   refine⟨?_,fun s' hs=>?_⟩
   ·simp(disch:=omega)only[Qmr,Qb2,Qde,e,hl2,decide_true,Bool.and_self,Bool.and_true,V1,Option.bind_some];rfl
   ·simp only[Sum.inl.injEq]at hs;subst hs;exact hl2
  ·intro out ho;simp(disch:=omega)only[Qfg,List.length_range,decide_true,Bool.and_self,Bool.and_true,V1,Option.bind_some]
  ·rw[Qks (fun x:Nat=>w64 (a+w64 ((x:Int)*b)))];simp(disch:=omega)only[Qb2,Nat.zero_add,Nat.le_refl,List.drop_zero,List.take_length,decide_true,Bool.and_self,Bool.and_true,V1,Int.toNat_natCast];rfl
 ·simp only[hv,decide_false,Bool.not_false,cond_true,if_false];rfl
theorem l10{F:Nat}{l:List Int}(hF:l.length<F)(hl:l.length≤1000):c10 F (l,l)=some true:=by
 unfold c10;simp only[decide_true,Bool.not_true,cond_false];refine Qh6 l (fun(_:Unit) i=>(i:Int)) (fun _ _=>(.inl ():Unit ⊕ (Bool ⊕ Unit))) (fun _=>.inr ()) (fun _ _=>True) () hF rfl trivial ?_ ?_ ?_
 ·intro i x _ hi hx _;refine⟨?_,fun _ _=>trivial⟩;simp(disch:=omega)only[Qmr,Qb2,Int.toNat_natCast,getD_some hx,Qde,decide_true,Bool.not_true,cond_false];rfl
 ·intro _ _;simp(disch:=omega)only[Qfg]
 ·rw[Zl6];rfl
end Go.Proofs.Tryz
section
namespace Go.Proofs.Tryz
open Go Go.Sx
end Go.Proofs.Tryz
end
