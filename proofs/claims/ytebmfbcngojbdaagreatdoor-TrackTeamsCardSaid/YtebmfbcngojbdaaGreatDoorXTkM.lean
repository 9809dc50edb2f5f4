/- Functions of the program as functions of data. By program. Plain law: relays and their zones, names of teams. And further parts. -/
import Derived.Test.YtebmfbcngojbdaaGreatDoorXTkL
import Derived.Test.YtebmfbcngojbdaaGreatDoorXT7a
set_option maxRecDepth 100000
set_option linter.all false
set_option linter.unusedVariables false
set_option linter.unusedSimpArgs false
namespace Go.Proofs.Tryz
open Go Go.Sx
def Zhz:Q4:=⟨[.map 0 (.val (.str)) (.val (.bool))],[(0,.stat (.mp 0))]⟩
def Zmm:Q4:=⟨[.slot 0 (.val (.seq [.str]))],[]⟩
noncomputable def Qtx(F:Nat):Lx:={ext:=[(72,Qcc 93)],anns:=[],still:=[]}
noncomputable def cx48_0(F:Nat)(a:List (ByteArray×Bool)):Option (List ByteArray):=
 Option.bind (gd (Decidable.decide (List.length a*(16:Nat)≤(140737488355328:Nat))) (gd (Decidable.decide (Go.Sx.keysFit (Go.Sx.mkeys a)=Bool.true)) (some (Go.Sx.skeysM a)))) fun(v6:List ByteArray)=>some (v6)
noncomputable def Qn0(F:Nat):PX:={np:=1,locs:=[.arg 0],τ:=Zhz,nr:=1,ω:=Zmm,ids:=[],mv:=[],code:=cx48_0 F}
theorem Zd1(F:Nat):(Qtx F).Ok cx:=Lx.Qz (Qrw) (Lx.Zk)
theorem Zp2(F:Nat)(a:List (ByteArray×Bool)):Qe8 cx (Qtx F) 1000 (.two .leaf (.two (.within [(73,.leaf)]) .leaf)) f48 (Qd f48) (Qn0 F) a=cx48_0 F a:=by kernel_rfl
theorem Zj8(F:Nat):X8 cx 48 (Qn0 F):=X8.Qi Qj (Zd1 F) (n:=1000) (an:=(.two .leaf (.two (.within [(73,.leaf)]) .leaf))) (fn:=f48) (c:=Qd f48) (by kernel_rfl) (by kernel_rfl) (fun a y h=>(Zp2 F a).trans h) (by kernel_rfl) (by kernel_rfl)
noncomputable def Qwb(F:Nat):Lx:={ext:=[(72,Qcc 93),(18,(Qoj F).sm),(48,(Qn0 F).sm)],anns:=[],still:=[]}
noncomputable def c19(F:Nat)(a:(List Int×Int×Int)×List (List ByteArray)×List ByteArray):Option (List ByteArray×Int):=
 Option.bind (Go.Proofs.Tryz.c18 F ((Prod.fst (Prod.fst a),Prod.fst (Prod.snd (Prod.fst a)),Prod.snd (Prod.snd (Prod.fst a))),Prod.fst (Prod.snd a),Prod.snd (Prod.snd a))) fun(v20:Int×Int)=>bif !Decidable.decide (Prod.snd v20=(0:Int))then(some ((Go.Sx.nilT ByteArray,Prod.snd v20)))else(Option.bind (Zb (σ:=List (ByteArray×Bool)×Int) (β:=List (ByteArray×Bool)) (fun(v23:List (ByteArray×Bool)×Int)=>bif Decidable.decide (Prod.snd v23<(↑(List.length (Prod.fst (Prod.snd a))):Int))then(gd (Decidable.decide ((0:Int)≤Prod.snd v23)) (gd (Decidable.decide (Prod.snd v23<(↑(List.length (Prod.fst (Prod.snd a))):Int))) (gd (Decidable.decide (Int.toNat (Prod.snd v23)<List.length (Prod.fst (Prod.snd a)))) (Option.bind (Zb (σ:=List (ByteArray×Bool)×Int) (β:=List (ByteArray×Bool)) (fun(v25:List (ByteArray×Bool)×Int)=>bif Decidable.decide (Prod.snd v25<(↑(List.length (List.getD (Prod.fst (Prod.snd a)) (Int.toNat (Prod.snd v23)) (Go.Sx.nilT ByteArray))):Int))then(gd (Decidable.decide ((0:Int)≤Prod.snd v25)) (gd (Decidable.decide (Prod.snd v25<(↑(List.length (List.getD (Prod.fst (Prod.snd a)) (Int.toNat (Prod.snd v23)) (Go.Sx.nilT ByteArray))):Int))) (gd (Decidable.decide (Int.toNat (Prod.snd v25)<List.length (List.getD (Prod.fst (Prod.snd a)) (Int.toNat (Prod.snd v23)) (Go.Sx.nilT ByteArray)))) (some (Sum.inl (Go.Sx.mput Go.Sx.strEq (List.getD (List.getD (Prod.fst (Prod.snd a)) (Int.toNat (Prod.snd v23)) (Go.Sx.nilT ByteArray)) (Int.toNat (Prod.snd v25)) ByteArray.empty) Bool.true (Prod.fst v25),Go.Sx.w64 (Prod.snd v25+(1:Int))))))))else(some (Sum.inr (Prod.fst v25)))) F ((Prod.fst v23,(0:Int)))) fun(v24:List (ByteArray×Bool))=>some (Sum.inl (v24,Go.Sx.w64 (Prod.snd v23+(1:Int))))))))else(some (Sum.inr (Prod.fst v23)))) F ((Go.Sx.nilT (ByteArray×Bool),(0:Int)))) fun(v21:List (ByteArray×Bool))=>Option.bind (Go.Proofs.Tryz.cx48_0 F v21) fun(v22:List ByteArray)=>some ((v22,(0:Int))))
noncomputable def Qxy(F:Nat):PC:={ats:=[.agg [.seq [.int .i64],.int .i64,.int .i64],.val (.seq [.seq [.str]]),.val (.seq [.str])],rts:=[.val (.seq [.str]),.val (.int .i64)],code:=c19 F}
theorem Zmx(F:Nat):(Qwb F).Ok cx:=Lx.Qz (Qrw) (Lx.Qz (PC.Q2 (Qy5 F)) (Lx.Qz (PX.Q2 (Zj8 F)) (Lx.Zk)))
theorem Zpp(F:Nat)(a:(List Int×Int×Int)×List (List ByteArray)×List ByteArray):Zf cx (Qwb F) 1000 (.two .leaf (.two .leaf (.two .leaf (.two (.two .leaf (.one (.loop ⟨[.map 1 (.val (.str)) (.val (.bool)),.slot 28 (.val (.int .i64))],[]⟩ [(.exit 0,⟨[.map 1 (.val (.str)) (.val (.bool))],[]⟩)] ⟨[41,28,32,33,34,40,38,39,14,37,36,35,12,31,30,29],[1],[]⟩ F (.two .leaf (.two .leaf (.two (.one (.two .leaf (.two .leaf (.one (.loop ⟨[.map 1 (.val (.str)) (.val (.bool)),.slot 34 (.val (.int .i64))],[]⟩ [(.exit 2,⟨[.map 1 (.val (.str)) (.val (.bool))],[]⟩)] ⟨[40,34,38,39,14,37,36,35],[1],[]⟩ F .leaf))))) .leaf)))))) .leaf)))) f19 (Qd f19) [.agg [.seq [.int .i64],.int .i64,.int .i64],.val (.seq [.seq [.str]]),.val (.seq [.str])] [.val (.seq [.str]),.val (.int .i64)] a=c19 F a:=by kernel_rfl
theorem Zki(F:Nat):Qw cx 19 (Qxy F):=Qw.Qi Qj (Zmx F) (n:=1000) (an:=(.two .leaf (.two .leaf (.two .leaf (.two (.two .leaf (.one (.loop ⟨[.map 1 (.val (.str)) (.val (.bool)),.slot 28 (.val (.int .i64))],[]⟩ [(.exit 0,⟨[.map 1 (.val (.str)) (.val (.bool))],[]⟩)] ⟨[41,28,32,33,34,40,38,39,14,37,36,35,12,31,30,29],[1],[]⟩ F (.two .leaf (.two .leaf (.two (.one (.two .leaf (.two .leaf (.one (.loop ⟨[.map 1 (.val (.str)) (.val (.bool)),.slot 34 (.val (.int .i64))],[]⟩ [(.exit 2,⟨[.map 1 (.val (.str)) (.val (.bool))],[]⟩)] ⟨[40,34,38,39,14,37,36,35],[1],[]⟩ F .leaf))))) .leaf)))))) .leaf))))) (fn:=f19) (c:=Qd f19) (by kernel_rfl) (by kernel_rfl) (fun a y h=>(Zpp F a).trans h) (by kernel_rfl)
noncomputable def lx4(F:Nat):Lx:={ext:=[(12,(Qw8 F).sm),(13,(Qu4 F).sm),(14,(Qji F).sm),(11,(Qvm F).sm),(17,(Qgw F).sm),(16,(Qh0 F).sm),(19,(Qxy F).sm),(20,(Qs8 F).sm),(21,(Qys F).sm),(22,(Qrm F).sm),(18,(Qoj F).sm),(15,(Qy6 F).sm)],anns:=[],still:=[]}
noncomputable def c4(F:Nat)(a:(List Int×Int×Int)×List (List ByteArray)×List ByteArray):Option (Bool):=
 Option.bind (bif !Decidable.decide ((↑(List.length (Prod.fst (Prod.fst a))):Int)≤(11:Int))then(some (Bool.true))else(Option.bind (Go.Proofs.Tryz.c13 F (Prod.fst (Prod.snd a))) fun(v63:Bool)=>bif !v63 then(some (Bool.true))else(Option.bind (Go.Proofs.Tryz.c14 F (Prod.snd (Prod.snd a),(20:Int))) fun(v64:Bool)=>some (!v64)))) fun(v46:Bool)=>bif v46 then(some (Bool.true))else(Option.bind (Go.Proofs.Tryz.c15 F (Prod.fst (Prod.fst a),Prod.fst (Prod.snd (Prod.fst a)),Prod.snd (Prod.snd (Prod.fst a)))) fun(v47:Int)=>Option.bind (Zb (σ:=Int) (β:=Bool ⊕ Unit) (fun(v59:Int)=>bif Decidable.decide (v59<(↑(List.length (Prod.fst (Prod.snd a))):Int))then(gd (Decidable.decide ((0:Int)≤v59)) (gd (Decidable.decide (v59<(↑(List.length (Prod.fst (Prod.snd a))):Int))) (gd (Decidable.decide (Int.toNat v59<List.length (Prod.fst (Prod.snd a)))) (Option.bind (bif Decidable.decide (v47=(0:Int))then(Option.bind (Go.Proofs.Tryz.c16 F ((Prod.fst (Prod.fst a),Prod.fst (Prod.snd (Prod.fst a)),Prod.snd (Prod.snd (Prod.fst a))),List.getD (Prod.fst (Prod.snd a)) (Int.toNat v59) (Go.Sx.nilT ByteArray))) fun(v62:Int)=>some (v62))else(some (v47))) fun(v60:Int)=>Option.bind (Go.Proofs.Tryz.c17 F ((Prod.fst (Prod.fst a),Prod.fst (Prod.snd (Prod.fst a)),Prod.snd (Prod.snd (Prod.fst a))),List.getD (Prod.fst (Prod.snd a)) (Int.toNat v59) (Go.Sx.nilT ByteArray))) fun(v61:Int)=>bif !Decidable.decide (v61=v60)then(some (Sum.inr (Sum.inl Bool.false)))else(some (Sum.inl (Go.Sx.w64 (v59+(1:Int)))))))))else(some (Sum.inr (Sum.inr Unit.unit)))) F ((0:Int))) fun(v48:Bool ⊕ Unit)=>Sum.elim (fun(v49:Bool)=>some (v49)) (fun(v50:Unit)=>Option.bind (Go.Proofs.Tryz.c18 F ((Prod.fst (Prod.fst a),Prod.fst (Prod.snd (Prod.fst a)),Prod.snd (Prod.snd (Prod.fst a))),Prod.fst (Prod.snd a),Prod.snd (Prod.snd a))) fun(v51:Int×Int)=>Option.bind (Go.Proofs.Tryz.c19 F ((Prod.fst (Prod.fst a),Prod.fst (Prod.snd (Prod.fst a)),Prod.snd (Prod.snd (Prod.fst a))),Prod.fst (Prod.snd a),Prod.snd (Prod.snd a))) fun(v52:List ByteArray×Int)=>Option.bind (bif Decidable.decide (v47=(0:Int))then(Option.bind (Go.Proofs.Tryz.c20 F ((Prod.fst (Prod.fst a),Prod.fst (Prod.snd (Prod.fst a)),Prod.snd (Prod.snd (Prod.fst a))),Prod.fst (Prod.snd a),Prod.snd (Prod.snd a))) fun(v58:Int×Int)=>some ((Prod.snd v58,Prod.fst v58)))else(some ((v47,(0:Int))))) fun(v53:Int×Int)=>Option.bind (bif Decidable.decide (Prod.fst v53=(0:Int))then(Option.bind (Go.Proofs.Tryz.c21 F (Prod.fst (Prod.snd a))) fun(v57:List ByteArray)=>some (v57))else(some (Go.Sx.nilT ByteArray))) fun(v54:List ByteArray)=>Option.bind (bif Decidable.decide (Prod.snd v51=Prod.fst v53)then(bif Decidable.decide (Prod.fst v51=Prod.snd v53)then(bif Decidable.decide (Prod.snd v52=Prod.fst v53)then(Option.bind (Go.Proofs.Tryz.c22 F (Prod.fst v52,v54)) fun(v56:Bool)=>bif v56 then(some (Bool.true))else(some (Bool.false)))else(some (Bool.false)))else(some (Bool.false)))else(some (Bool.false))) fun(v55:Bool)=>some (v55)) (v48))
noncomputable def pc4(F:Nat):PC:={ats:=[.agg [.seq [.int .i64],.int .i64,.int .i64],.val (.seq [.seq [.str]]),.val (.seq [.str])],rts:=[.val (.bool)],code:=c4 F}
theorem Zpa(F:Nat):(lx4 F).Ok cx:=Lx.Qz (PC.Q2 (Zp7 F)) (Lx.Qz (PC.Q2 (Zfh F)) (Lx.Qz (PC.Q2 (Qwk F)) (Lx.Qz (PC.Q2 (Zo1 F)) (Lx.Qz (PC.Q2 (Qx3 F)) (Lx.Qz (PC.Q2 (Qwz F)) (Lx.Qz (PC.Q2 (Zki F)) (Lx.Qz (PC.Q2 (Zrj F)) (Lx.Qz (PC.Q2 (Ztg F)) (Lx.Qz (PC.Q2 (Zkf F)) (Lx.Qz (PC.Q2 (Qy5 F)) (Lx.Qz (PC.Q2 (Zjk F)) (Lx.Zk))))))))))))
theorem Zh1(F:Nat)(a:(List Int×Int×Int)×List (List ByteArray)×List ByteArray):Zf cx (lx4 F) 1000 (.two .leaf (.two .leaf (.two (.two (.join [(.normal,⟨[.slot 31 (.val (.bool))],[]⟩)] ⟨[31,30,29,28,27,26,25,24,23,22,21,20,19],[],[]⟩ .leaf) .leaf) (.two .leaf (.two (.two .leaf (.one (.loop ⟨[.slot 37 (.val (.int .i64))],[]⟩ [(.ret,⟨[.slot 6 (.val (.bool))],[]⟩),(.exit 0,⟨[],[]⟩)] ⟨[52,37,41,11,47,48,49,50,51,6,44,45,46,43,42,10,40,39,38],[],[]⟩ F (.two .leaf (.two .leaf (.two (.one (.two .leaf (.two .leaf (.two (.two .leaf (.join [(.normal,⟨[.slot 11 (.val (.int .i64))],[]⟩)] ⟨[11,46,45,44],[],[]⟩ .leaf)) .leaf)))) .leaf)))))) (.two .leaf (.two .leaf (.two .leaf (.two (.two .leaf (.join [(.normal,⟨[.slot 8 (.val (.int .i64)),.slot 16 (.val (.int .i64))],[]⟩)] ⟨[8,16,75,74,69,73,72,71,70],[],[]⟩ .leaf)) (.two .leaf (.two (.two .leaf (.join [(.normal,⟨[.slot 17 (.val (.seq [.str]))],[]⟩)] ⟨[17,79,78],[],[]⟩ .leaf)) (.two (.join [(.normal,⟨[.slot 6 (.val (.bool))],[]⟩)] ⟨[6,100,99,98,97,96,95,94,93,92,91,90,89,88,87,86,85,84,83,82,81,80],[],[]⟩ .leaf) .leaf)))))))))))) f4 (Qd f4) [.agg [.seq [.int .i64],.int .i64,.int .i64],.val (.seq [.seq [.str]]),.val (.seq [.str])] [.val (.bool)] a=c4 F a:=by kernel_rfl
theorem Zi1(F:Nat):Qw cx 4 (pc4 F):=Qw.Qi Qj (Zpa F) (n:=1000) (an:=(.two .leaf (.two .leaf (.two (.two (.join [(.normal,⟨[.slot 31 (.val (.bool))],[]⟩)] ⟨[31,30,29,28,27,26,25,24,23,22,21,20,19],[],[]⟩ .leaf) .leaf) (.two .leaf (.two (.two .leaf (.one (.loop ⟨[.slot 37 (.val (.int .i64))],[]⟩ [(.ret,⟨[.slot 6 (.val (.bool))],[]⟩),(.exit 0,⟨[],[]⟩)] ⟨[52,37,41,11,47,48,49,50,51,6,44,45,46,43,42,10,40,39,38],[],[]⟩ F (.two .leaf (.two .leaf (.two (.one (.two .leaf (.two .leaf (.two (.two .leaf (.join [(.normal,⟨[.slot 11 (.val (.int .i64))],[]⟩)] ⟨[11,46,45,44],[],[]⟩ .leaf)) .leaf)))) .leaf)))))) (.two .leaf (.two .leaf (.two .leaf (.two (.two .leaf (.join [(.normal,⟨[.slot 8 (.val (.int .i64)),.slot 16 (.val (.int .i64))],[]⟩)] ⟨[8,16,75,74,69,73,72,71,70],[],[]⟩ .leaf)) (.two .leaf (.two (.two .leaf (.join [(.normal,⟨[.slot 17 (.val (.seq [.str]))],[]⟩)] ⟨[17,79,78],[],[]⟩ .leaf)) (.two (.join [(.normal,⟨[.slot 6 (.val (.bool))],[]⟩)] ⟨[6,100,99,98,97,96,95,94,93,92,91,90,89,88,87,86,85,84,83,82,81,80],[],[]⟩ .leaf) .leaf))))))))))))) (fn:=f4) (c:=Qd f4) (by kernel_rfl) (by kernel_rfl) (fun a y h=>(Zh1 F a).trans h) (by kernel_rfl)
theorem Qwr{α:Type}(e:α→Int):∀(l:List α),goL (fun x (_:Unit)=>if e x=0 then(.inl ():Unit ⊕ (Int ⊕ Unit))else .inr (.inl (e x))) (fun _=>.inr ()) l ()=if Zd (l.map e)=0 then .inr ()else .inl (Zd (l.map e))
 |[]=>rfl
 |x::l=>by
  rw[Wh,List.map_cons];simp only[Zd];by_cases h:e x=0
  ·simp only[h,if_true];exact Qwr e l
  ·simp only[h,if_false]
theorem Qr6{α γ:Type}{step:Int→Option (Int ⊕ (Int ⊕ Unit))}{F:Nat}{k:Int ⊕ Unit→Option γ}{r:Option γ}(l:List α)(e:α→Int)(hF:l.length<F)
  (hstep:∀(i:Nat) x,i<l.length→l[i]? =some x→step (i:Int)=some (if e x=0 then .inl ((i:Int)+1)else .inr (.inl (e x))))
  (hend:step (l.length:Int)=some (.inr (.inr ())))
  (hk:k (if Zd (l.map e)=0 then .inr ()else .inl (Zd (l.map e)))=r):Option.bind (Zb step F 0) k=r:=by
 refine Yy l (fun(_:Unit) i=>(i:Int)) (fun x (_:Unit)=>if e x=0 then .inl ()else .inr (.inl (e x))) (fun _=>.inr ()) (fun _ _=>True) () hF rfl trivial ?_ ?_ ?_
 ·intro i x _ hi hx _;refine⟨?_,fun _ _=>trivial⟩;rw[hstep i x hi hx];by_cases h:e x=0
  ·simp only[h,if_true];rfl
  ·simp only[h,if_false]
 ·intro _ _;exact hend
 ·rw[Qwr];exact hk
theorem l71{F:Nat}(hF:400≤F){l:List ByteArray}{x:ByteArray}(hl:l.length≤300):∃v,c71 F (l,x)=some v∧decide (0≤v)=l.any fun y=>strEq x y:=by
 unfold c71;refine Qm9 l (fun y (_:Unit)=>if strEq x y=true then .inr true else .inl ()) (fun _=>false) (fun i _ t=>t=(i:Int)) (fun(a:Bool) (b:Int ⊕ Unit)=>decide (0≤b.elim (fun v=>v) (fun _=>-1))=a) () (by omega) rfl ?_ ?_ ?_
 ·intro i y _ t hi hy ht;subst ht;simp(disch:=omega)only[Ya,Zt,Int.toNat_natCast,getD_some hy,Zz];cases strEq x y with
  |true=>exact⟨_,rfl,by simp[U6]⟩
  |false=>exact⟨_,rfl,by simp[U6]⟩
 ·intro _ t ht;subst ht;simp(disch:=omega)only[Z9];exact⟨_,rfl,by simp⟩
 ·intro b hb;rw[Kp]at hb;refine⟨b.elim (fun v=>v) (fun _=>-1),by cases b<;>rfl,?_⟩;rw[hb];cases l.any fun y=>strEq x y<;>rfl
theorem Qmz(a b:ByteArray):strEq a b=strEq b a:=by
 by_cases h:a=b
 ·subst h;rfl
 ·rw[Qww h,Qww (fun e=>h e.symm)]
def hasB(l:List ByteArray)(x:ByteArray):Bool:=l.any fun y=>strEq y x
theorem Qfe{l:List ByteArray}{x:ByteArray}:hasB l x=true↔x∈l:=by
 unfold hasB;rw[List.any_eq_true];constructor
 ·rintro ⟨y,hy,e⟩
  rw[Qf3.1 e]at hy;exact hy
 ·intro h;exact⟨x,h,Qm4 x⟩
theorem l49{F:Nat}(hF:400≤F){l:List ByteArray}(hl:l.length≤300)(x:ByteArray):c49 F (l,x)=some (hasB l x):=by
 unfold c49;refine Yy l (fun(_:Unit) i=>(i:Int)) (fun y (_:Unit)=>if strEq y x=true then .inr (.inl true)else .inl ()) (fun _=>(.inr ():Bool ⊕ Unit)) (fun _ _=>True) () (by omega) rfl trivial ?_ ?_ ?_
 ·intro i y _ hi hy _;refine⟨?_,fun _ _=>trivial⟩;simp(disch:=omega)only[Ya,Zt,Int.toNat_natCast,getD_some hy,Zz];cases strEq y x<;>rfl
 ·intro _ _;simp(disch:=omega)only[Z9]
 ·rw[Kp (fun y=>strEq y x)];unfold hasB;cases l.any fun y=>strEq y x<;>rfl
theorem l47{F:Nat}(hF:400≤F){l:List ByteArray}(hl:l.length≤300)(x:ByteArray):c47 F (l,x)=some (hasB l x):=by obtain⟨v,h1,h2⟩:=l71 hF (l:=l) (x:=x) hl;unfold c47;simp only[h1,Option.bind_some,h2];unfold hasB;congr 2;funext y;exact Qmz _ _
def nmE(l:List ByteArray)(i:Nat):Int:=if Um (l.getD i ByteArray.empty)=true then(if hasB (l.take i) (l.getD i ByteArray.empty)=true then 9 else 0)else 8
def Xn(l:List ByteArray):Int:=Zd ((List.range l.length).map (nmE l))
theorem l44{F:Nat}(hF:400≤F){l:List ByteArray}(hl:l.length≤300):c44 F l=some (Xn l):=by
 unfold c44 Xn;refine Qr6 (List.range l.length) (nmE l) (by simp;omega) ?_ ?_ ?_
 ·intro i x hi hx;obtain rfl:=Qb3 hx;simp only[List.length_range]at hi;have ht:(List.take x l).length≤300:=by rw[List.length_take];omega
  simp(disch:=omega)only[Ya,Zt,Int.toNat_natCast,Zz,l66 hF,Option.bind_some,List.drop_zero,l49 hF ht];unfold nmE;cases Um (l.getD x ByteArray.empty)
  ·rfl
  ·cases hasB (l.take x) (l.getD x ByteArray.empty)<;>rfl
 ·simp(disch:=omega)only[Z9,List.length_range]
 ·by_cases h:Zd ((List.range l.length).map (nmE l))=0<;>simp[h]
def Qdr(M:List (ByteArray×Bool))(l:List ByteArray):Prop:=∀k,mgetD strEq k M false=hasB l k
theorem Qdr.put{M:List (ByteArray×Bool)}{l:List ByteArray}(h:Qdr M l)(x:ByteArray):Qdr (mput strEq x true M) (l++[x]):=by intro k;rw[Qst Qy9,h k];unfold hasB;rw[List.any_append];simp only[List.any_cons,List.any_nil,Bool.or_false];rw[Qmz x k];cases strEq k x<;>simp
theorem Qzj{S α:Type}(e:α→Int)(f:α→S→S):∀(k:List α) (s:S),Sum.elim (fun v:S×Int=>some v.2) (fun _:S=>some (0:Int)) (goL (fun x s=>if e x=0 then .inl (f x s)else .inr (.inl (s,e x))) (fun s=>.inr s) k s)=some (Zd (k.map e))
 |[],s=>rfl
 |x::k,s=>by
  rw[Wh,List.map_cons];by_cases h:e x=0
  ·simp only[h,if_true,Zd];exact Qzj e f k (f x s)
  ·simp only[h,if_false,Zd];rfl
theorem l46{F:Nat}(hF:400≤F){l:List ByteArray}(hl:l.length≤300)(hs:∀x∈l,x.size≤300):c46 F l=some (Xn l):=by
 unfold c46 Xn;refine Yy (List.range l.length) (fun(M:List (ByteArray×Bool)) i=>(M,(i:Int))) (fun x M=>if nmE l x=0 then .inl (mput strEq (l.getD x ByteArray.empty) true M)else .inr (.inl (M,nmE l x))) (fun M=>.inr M) (fun i M=>Qdr M (l.take i)) [] (by simp;omega) rfl (fun k=>rfl) ?_ ?_ ?_
 ·intro i x M hi hx hM;obtain rfl:=Qb3 hx;simp only[List.length_range]at hi;have hx2:l[x]? =some (l.getD x ByteArray.empty):=by rw[List.getD_eq_getElem?_getD,List.getElem?_eq_getElem hi];rfl
  have hsz:=hs _ (List.mem_of_getElem? hx2);have hm:=hM (l.getD x ByteArray.empty);refine⟨?_,fun s' hs=>?_⟩
  ·simp(disch:=omega)only[Ya,Zt,Int.toNat_natCast,Zz,l70 hF hsz,l27,hm,Option.bind_some,l25 (F:=F) (l:=_::_::nilT Int) (by simp[nilT];omega) (by simp[nilT])];unfold nmE;cases Um (l.getD x ByteArray.empty)
   ·rfl
   ·cases hasB (l.take x) (l.getD x ByteArray.empty)<;>rfl
  ·by_cases h:nmE l x=0
   ·simp only[h,if_true,Sum.inl.injEq]at hs;subst hs;have:=hM.put (l.getD x ByteArray.empty);rw[show l.take x++[l.getD x ByteArray.empty]=l.take (x+1)from Qbm hx2]at this;exact this
   ·simp only[h,if_false]at hs;cases hs
 ·intro M _;simp(disch:=omega)only[Z9,List.length_range]
 ·exact Qzj (nmE l) (fun x M=>mput strEq (l.getD x ByteArray.empty) true M) (List.range l.length) []
abbrev Rl:=List Int×Int×Int
def Yi(n:Int):Bool:=decide (n<1∨999999<n)
theorem l68(F:Nat)(n:Int):c68 F n=some (Yi n):=by unfold c68 Yi;by_cases h1:n<1<;>by_cases h2:999999<n<;>simp[h1,h2]
theorem x67{F:Nat}{l:List Int}(hF:l.length<F)(hl:l.length≤300):cx67_0 F l=some (l.any Yi):=by
 have key:∃v,cx90_0 F l=some v∧decide (0≤v)=l.any Yi:=by
  unfold cx90_0;refine Qm9 l (fun y (_:Unit)=>if Yi y=true then .inr true else .inl ()) (fun _=>false) (fun i _ t=>t=(i:Int)) (fun(a:Bool) (b:Int ⊕ Unit)=>decide (0≤b.elim (fun v=>v) (fun _=>-1))=a) () hF rfl ?_ ?_ ?_
  ·intro i y _ t hi hy ht;subst ht;simp(disch:=omega)only[Ya,Zt,Int.toNat_natCast,getD_some hy,Zz,l68,Option.bind_some];cases Yi y with
   |true=>exact⟨_,rfl,by simp[U6]⟩
   |false=>exact⟨_,rfl,by simp[U6]⟩
  ·intro _ t ht;subst ht;simp(disch:=omega)only[Z9];exact⟨_,rfl,by simp⟩
  ·intro b hb;rw[Kp]at hb;refine⟨b.elim (fun v=>v) (fun _=>-1),by cases b<;>rfl,?_⟩;rw[hb];cases l.any Yi<;>rfl
 obtain⟨v,h1,h2⟩:=key;unfold cx67_0;simp only[h1,Option.bind_some,h2]
def Zo:List Int→Int
 |[]=>0
 |x::l=>x+Zo l
theorem Qpk(l:List Int)(x:Int):Zo (l++[x])=Zo l+x:=by
 induction l with
 |nil=>simp[Zo]
 |cons y l ih=>rw[List.cons_append,Zo,ih,Zo];omega
structure Qbs (l:List Int):Prop where
 n:2≤l.length∧l.length≤8
 b:∀x∈l,1≤x∧x≤999999
theorem Qyd{l:List Int}(h:∀x∈l,1≤x∧x≤999999):0≤Zo l∧Zo l≤999999*l.length:=by
 induction l with
 |nil=>simp[Zo]
 |cons y l ih=>
  have h1:=h y (List.mem_cons_self ..);have h2:=ih fun x hx=>h x (List.mem_cons_of_mem _ hx);rw[Zo,List.length_cons]
  push_cast
  omega
theorem Qfx{l:List Int}(h:Qbs l)(i:Nat):0≤Zo (l.take i)∧Zo (l.take i)≤7999992:=by
 have h1:=Qyd (l:=l.take i) fun x hx=>h.b x (List.mem_of_mem_take hx);have h2:(l.take i).length≤8:=by rw[List.length_take];have:=h.n;omega
 omega
theorem l69{F:Nat}(hF:400≤F){l:List Int}(h:Qbs l)(z b:Int):c69 F (l,z,b)=some (Zo l):=by
 have hn:=h.n;unfold c69;refine Yy l (fun(s:Int) i=>(s,(i:Int))) (fun x s=>.inl (s+x)) (fun s=>s) (fun i s=>s=Zo (l.take i)) 0 (by omega) rfl rfl ?_ ?_ ?_
 ·intro i x s hi hx hs;have hx':=h.b x (List.mem_of_getElem? hx);have h1:=Qfx h i;refine⟨?_,fun s' hs'=>?_⟩
  ·simp(disch:=omega)only[Ya,Zt,Int.toNat_natCast,getD_some hx,Zz];rfl
  ·simp only[Sum.inl.injEq]at hs';subst hs';rw[←Qbm hx,show l.take i++x::nilT Int=l.take i++[x]from rfl,Qpk,hs]
 ·intro s _;simp(disch:=omega)only[Z9]
 ·rw[Wm (fun s (x:Int)=>s+x)];have:∀(l:List Int) (s:Int),l.foldl (fun s x=>s+x) s=s+Zo l:=by
   intro l;induction l with
   |nil=>intro s;simp[Zo]
   |cons y l ih=>intro s;rw[List.foldl_cons,ih,Zo];omega
  rw[this,Int.zero_add]
theorem l43{F:Nat}(hF:400≤F){l:List Int}(h:Qbs l)(z b:Int):c43 F (l,z,b)=some (Zo l):=l69 hF h z b
def zoL(z b:Int):Int→List Int→List (Int×Int)
 |_,[]=>[]
 |s,n::l=>(s+n-b,s+n-b+z)::zoL z b (s+n) l
theorem Qim(z b:Int)(x:Int):∀(l:List Int) (s:Int),zoL z b s (l++[x])=zoL z b s l++[(s+Zo l+x-b,s+Zo l+x-b+z)]
 |[],s=>by simp[zoL,Zo]
 |y::l,s=>by
  rw[List.cons_append,zoL,Qim z b x l,zoL,List.cons_append,Zo];congr 3
  ·congr 1<;>omega
theorem Qec(z b:Int):∀(l:List Int) (s:Int),(zoL z b s l).length=l.length
 |[],_=>rfl
 |y::l,s=>by rw[zoL,List.length_cons,Qec z b l,List.length_cons]
def Z4(r:Rl):List (Int×Int):=zoL r.2.1 r.2.2 0 (r.1.take (r.1.length-1))
theorem Qx6{l:List Int}(h:Qbs l)(i:Nat):0≤Zo ((l.take (l.length-1)).take i)∧Zo ((l.take (l.length-1)).take i)≤7999992:=by rw[List.take_take];exact Qfx h _
structure Qc5 (r:Rl):Prop where
 l:Qbs r.1
 z:1≤r.2.1∧r.2.1≤999999
 b:0≤r.2.2∧r.2.2≤r.2.1
theorem l63{F:Nat}(hF:400≤F){r:Rl}(h:Qc5 r):c63 F r=some (Z4 r):=by
 obtain⟨L,z,b⟩:=r;have hn:=h.l.n;have hz:=h.z;have hb:=h.b;have hl:=h.l;simp only at hn hz hb hl;have e:∀y:Int×Int,y::nilT (Int×Int)=[y]:=fun _=>rfl;have hw:w64 ((L.length:Int)-1)=((L.length-1:Nat):Int):=by rw[Zz (by omega) (by omega)];omega
 have hL:(L.take (L.length-1)).length=L.length-1:=Qmu (by omega);unfold c63 Z4;simp only[hw,Int.toNat_natCast,List.drop_zero];rw[Zt (by omega),Zt (by omega)];refine Yy (L.take (L.length-1)) (fun(q:List (Int×Int)×Int) i=>(q.1,q.2,(i:Int))) (fun x q=>.inl (q.1++[(q.2+x-b,q.2+x-b+z)],q.2+x)) (fun q=>q.1) (fun i q=>q.1=zoL z b 0 ((L.take (L.length-1)).take i)∧q.2=Zo ((L.take (L.length-1)).take i)) ([],0) (by omega) rfl ⟨rfl,rfl⟩ ?_ ?_ ?_
 ·rintro i x ⟨out,s⟩ hi hx ⟨h1,h2⟩
  simp only at h1 h2;have hx':=hl.b x (List.mem_of_mem_take (List.mem_of_getElem? hx));have h3:=Qx6 hl i;have hol:out.length≤8:=by rw[h1,Qec,List.length_take];omega
  have hol2:(out++[(s+x-b,s+x-b+z)]).length≤9:=by rw[List.length_append,List.length_singleton];omega
  refine⟨?_,fun s' hs'=>?_⟩
  ·simp(disch:=omega)only[Ya,Zt,Int.toNat_natCast,getD_some hx,Zz,e,decide_true,Bool.and_self,Bool.and_true,Y6,Option.bind_some];rfl
  ·simp only[Sum.inl.injEq]at hs';subst hs';have ht:(L.take (L.length-1)).take (i+1)=(L.take (L.length-1)).take i++[x]:=(Qbm hx).symm;refine⟨?_,?_⟩
   ·show out++_=_;rw[ht,Qim,h1,h2,Int.zero_add]
   ·show s+x=_;rw[ht,Qpk,h2]
 ·rintro ⟨out,s⟩ _
  simp(disch:=omega)only[Z9,decide_true,Bool.and_self,Bool.and_true,Y6,Option.bind_some]
 ·have hf:∀(l:List Int) (q:List (Int×Int)×Int),(l.foldl (fun(q:List (Int×Int)×Int) x=>(q.1++[(q.2+x-b,q.2+x-b+z)],q.2+x)) q).1=q.1++zoL z b q.2 l:=by
   intro l;induction l with
   |nil=>intro q;simp[zoL]
   |cons y l ih=>intro q;rw[List.foldl_cons,ih,zoL];simp
  rw[Wm (fun(q:List (Int×Int)×Int) (x:Int)=>(q.1++[(q.2+x-b,q.2+x-b+z)],q.2+x))];simp only[hf];simp[Y6]
theorem l42{F:Nat}(hF:400≤F){r:Rl}(h:Qc5 r):c42 F r=some (Z4 r):=by
 obtain⟨L,z,b⟩:=r;have hn:=h.l.n;have hz:=h.z;have hb:=h.b;have hl:=h.l;simp only at hn hz hb hl;have e:∀y:Int×Int,y::nilT (Int×Int)=[y]:=fun _=>rfl;have hL:(L.take (L.length-1)).length=L.length-1:=Qmu (by omega);unfold c42 Z4;refine Yy (L.take (L.length-1)) (fun(q:List (Int×Int)×Int) i=>(q.1,q.2,(i:Int))) (fun x q=>.inl (q.1++[(q.2+x-b,q.2+x-b+z)],q.2+x)) (fun q=>q.1) (fun i q=>q.1=zoL z b 0 ((L.take (L.length-1)).take i)∧q.2=Zo ((L.take (L.length-1)).take i)) ([],0) (by omega) rfl ⟨rfl,rfl⟩ ?_ ?_ ?_
 ·rintro i x ⟨out,s⟩ hi hx ⟨h1,h2⟩
  simp only at h1 h2;have hx':=hl.b x (List.mem_of_mem_take (List.mem_of_getElem? hx));have h3:=Qx6 hl i;have hx0:L[i]? =some x:=by rw[List.getElem?_take_of_lt (by omega)]at hx;exact hx
  have hol:out.length≤8:=by rw[h1,Qec,List.length_take];omega
  have hol2:(out++[(s+x-b,s+x-b+z)]).length≤9:=by rw[List.length_append,List.length_singleton];omega
  refine⟨?_,fun s' hs'=>?_⟩
  ·simp(disch:=omega)only[Ya,Zt,Int.toNat_natCast,getD_some hx0,Zz,e,decide_true,Bool.and_self,Bool.and_true,Y6,Option.bind_some];rfl
  ·simp only[Sum.inl.injEq]at hs';subst hs';have ht:(L.take (L.length-1)).take (i+1)=(L.take (L.length-1)).take i++[x]:=(Qbm hx).symm;refine⟨?_,?_⟩
   ·show out++_=_;rw[ht,Qim,h1,h2,Int.zero_add]
   ·show s+x=_;rw[ht,Qpk,h2]
 ·rintro ⟨out,s⟩ _
  simp(disch:=omega)only[Zz,Z9,decide_true,Bool.and_self,Bool.and_true,Y6,Option.bind_some]
 ·have hf:∀(l:List Int) (q:List (Int×Int)×Int),(l.foldl (fun(q:List (Int×Int)×Int) x=>(q.1++[(q.2+x-b,q.2+x-b+z)],q.2+x)) q).1=q.1++zoL z b q.2 l:=by
   intro l;induction l with
   |nil=>intro q;simp[zoL]
   |cons y l ih=>intro q;rw[List.foldl_cons,ih,zoL];simp
  rw[Wm (fun(q:List (Int×Int)×Int) (x:Int)=>(q.1++[(q.2+x-b,q.2+x-b+z)],q.2+x))];simp only[hf];simp[Y6]
def pB(w:Int):Int→List (Int×Int)→Bool
 |f,[]=>decide (w+1<f)
 |f,z::l=>decide (z.1<f)||pB w (z.2+1) l
def chB:List (Int×Int)→Bool
 |z::y::l=>decide (y.1≤z.2)||chB (y::l)
 |_=>false
theorem Qxp(w:Int):∀(l:List (Int×Int)) (f:Int) (z:Int×Int),pB w f (z::l)=(decide (z.1<f)||(decide (w<((z::l).getLastD (0,0)).2)||chB (z::l)))
 |[],f,z=>by
  have:decide (w+1<z.2+1)=decide (w<z.2):=by
   by_cases h:w<z.2
   ·rw[decide_eq_true h,decide_eq_true (by omega)]
   ·rw[decide_eq_false h,decide_eq_false (by omega)]
  simp[pB,chB,this]
 |y::l,f,z=>by
  have ih:=Qxp w l (z.2+1) y;have:decide (y.1<z.2+1)=decide (y.1≤z.2):=by
   by_cases h:y.1≤z.2
   ·rw[decide_eq_true h,decide_eq_true (by omega)]
   ·rw[decide_eq_false h,decide_eq_false (by omega)]
  rw[pB,ih,this,chB];have hlast:((z::y::l).getLastD (0,0))=((y::l).getLastD (0,0)):=by simp[List.getLastD_cons]
  rw[hlast];cases decide (z.1<f)<;>cases decide (y.1≤z.2)<;>cases decide (w<((y::l).getLastD (0,0)).2)<;>rfl
def rlB(r:Rl):Bool:=r.1.any Yi||(Yi r.2.1||decide (r.2.2<0∨r.2.1<r.2.2))
def rlE(r:Rl):Int:=if(r.1.length:Int)<2∨(8:Int)<r.1.length then 2 else if rlB r=true then 3 else if pB (Zo r.1) 0 (Z4 r)=true then 18 else 0
theorem Qv8{r:Rl}(h1:¬((r.1.length:Int)<2∨(8:Int)<r.1.length))(h2:¬rlB r=true):Qc5 r:=by unfold rlB Yi at h2;simp only[Bool.or_eq_true,List.any_eq_true,decide_eq_true_eq,not_or,not_exists,not_and]at h2;obtain⟨q1,q2,q3⟩:=h2;refine⟨⟨by omega,fun x hx=>?_⟩,by omega,by omega⟩;have:=q1 x hx;omega
theorem Qyz{z b:Int}(hz:1≤z∧z≤999999)(hb:0≤b∧b≤z):∀(l:List Int) (s:Int),(∀x∈l,1≤x∧x≤999999)→0≤s→s+Zo l≤10000000→∀y∈zoL z b s l,-1000000≤y.1∧y.1≤y.2∧y.2≤11000000
 |[],s,_,_,_,y,hy=>by cases hy
 |x::l,s,h,h0,h1,y,hy=>by
  have hx:=h x (List.mem_cons_self ..);have hl:=fun q hq=>h q (List.mem_cons_of_mem _ hq);have hs:=(Qyd hl).1;rw[Zo]at h1;rw[zoL]at hy;rcases List.mem_cons.1 hy with rfl|hy
  ·simp only;omega
  ·exact Qyz hz hb l (s+x) hl (by omega) (by omega) y hy
theorem Qx0{r:Rl}(h:Qc5 r):∀y∈Z4 r,-1000000≤y.1∧y.1≤y.2∧y.2≤11000000:=by have h1:=Qfx h.l (r.1.length-1);exact Qyz h.z h.b _ 0 (fun x hx=>h.l.b x (List.mem_of_mem_take hx)) (Int.le_refl _) (by omega)
theorem Qzm{r:Rl}(h:Qc5 r):(Z4 r).length=r.1.length-1:=by unfold Z4;rw[Qec,List.length_take];omega
theorem Qyb(w:Int):∀(l:List (Int×Int)) (f:Int),Sum.elim (fun v:Int=>some v) (fun f:Int=>some (if w+1<f then(18:Int)else 0)) (goL (fun(z:Int×Int) (f:Int)=>if z.1<f then(.inr (.inl 18):Int ⊕ (Int ⊕ Int))else .inl (z.2+1)) (fun f=>.inr f) l f)=some (if pB w f l=true then 18 else 0)
 |[],f=>by simp only[Qtb,Sum.elim_inr,pB,decide_eq_true_eq]
 |z::l,f=>by
  rw[Wh,pB];by_cases h:z.1<f
  ·simp[h]
  ·simp only[h,if_false,decide_false,Bool.false_or];exact Qyb w l (z.2+1)
theorem l45{F:Nat}(hF:400≤F){r:Rl}(hr:r.1.length≤11):c45 F r=some (rlE r):=by
 have e4:∀a b d e,c25 F (a::b::d::e::nilT Int)=some (Zd [a,b,d,e]):=fun a b d e=>l25 (by simp[nilT];omega) (by simp[nilT]);unfold c45;simp only[x67 (F:=F) (l:=r.1) (by omega) (by omega),l27,l26,e4,Option.bind_some];unfold rlE;by_cases h1:(r.1.length:Int)<2∨(8:Int)<r.1.length
 ·rw[if_pos h1];by_cases h2:(r.1.length:Int)<2
  ·simp only[h2,decide_true,cond_true,Option.bind_some];simp[Zd]
  ·have h3:(8:Int)<r.1.length:=by omega
   simp only[h2,h3,decide_true,decide_false,cond_true,cond_false,if_true,Option.bind_some];simp[Zd]
 ·rw[if_neg h1];have h2:¬(r.1.length:Int)<2:=by omega
  have h3:¬(8:Int)<r.1.length:=by omega
  simp only[h2,h3,decide_false,cond_false,Bool.false_eq_true,if_false,Option.bind_some];by_cases hb:rlB r=true
  ·rw[if_pos hb];have:Zd [0,if r.1.any Yi=true then 3 else 0,wiE r.2.1 1 999999,wiE r.2.2 0 r.2.1]=3:=by
    unfold rlB Yi at hb;unfold wiE;by_cases q1:r.1.any Yi=true
    ·simp[Zd,q1]
    ·by_cases q2:r.2.1<1∨999999<r.2.1
     ·simp[Zd,q1,q2]
     ·by_cases q3:r.2.2<0∨r.2.1<r.2.2
      ·simp[Zd,q1,q2,q3]
      ·exfalso;have q1':(r.1.any fun n=>decide (n<1∨999999<n))=false:=by
        cases h:(r.1.any fun n=>decide (n<1∨999999<n))with
        |false=>rfl
        |true=>exact absurd h q1
       rw[q1',decide_eq_false q2,decide_eq_false q3]at hb;cases hb
   rw[this];rfl
  ·rw[if_neg hb];have ho:=Qv8 h1 hb;have:Zd [0,if r.1.any Yi=true then 3 else 0,wiE r.2.1 1 999999,wiE r.2.2 0 r.2.1]=0:=by unfold rlB at hb;simp only[Bool.or_eq_true,not_or]at hb;have hz:=ho.z;have hbb:=ho.b;unfold wiE;rw[if_neg (by simpa using hb.1),if_neg (by omega),if_neg (by omega)];rfl
   rw[this];have hl:=Qzm ho;have hn:=ho.l.n;have hbd:=Qx0 ho;have hs:=Qfx ho.l r.1.length;rw[List.take_length]at hs;simp only[decide_true,Bool.not_true,cond_false,V8,l63 hF ho,Option.bind_some];refine Yy (Z4 r) (fun(f:Int) i=>(f,(i:Int))) (fun(z:Int×Int) (f:Int)=>if z.1<f then .inr (.inl 18)else .inl (z.2+1)) (fun f=>.inr f) (fun _ _=>True) 0 (by omega) rfl trivial ?_ ?_ ?_
   ·intro i z f hi hz _;have hz':=hbd z (List.mem_of_getElem? hz);refine⟨?_,fun _ _=>trivial⟩;simp(disch:=omega)only[Ya,Zt,Int.toNat_natCast,getD_some hz,Zz];by_cases h:z.1<f<;>simp[h]
   ·intro f _;simp(disch:=omega)only[Z9]
   ·have h69:c69 F r=some (Zo r.1):=l69 hF ho.l r.2.1 r.2.2;have hw:w64 (Zo r.1+1)=Zo r.1+1:=Zz (by omega) (by omega);simp only[h69,Option.bind_some,hw,decide_eq_true_eq];exact Qyb (Zo r.1) (Z4 r) 0
end Go.Proofs.Tryz
