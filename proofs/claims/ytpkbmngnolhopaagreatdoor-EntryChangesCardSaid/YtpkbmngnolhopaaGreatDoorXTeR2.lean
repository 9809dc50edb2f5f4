/- Functions of the program as functions of data. By program. Replay of both: the acts one after another. And further parts. -/
import Derived.Test.YtpkbmngnolhopaaGreatDoorXTeD62
import Derived.Test.YtpkbmngnolhopaaGreatDoorXT3y
import Derived.Test.YtpkbmngnolhopaaGreatDoorXTeR
import Derived.Test.YtpkbmngnolhopaaGreatDoorXT3u
set_option maxRecDepth 100000
set_option linter.all false
set_option linter.unusedVariables false
set_option linter.unusedSimpArgs false
open Option renaming bind_some->C
open Nat renaming le_trans->I,le_refl->ZH
open List renaming mem_cons_of_mem->J,length_append->R,mem_cons_self->U,length_singleton->ZA,mem_of_getElem?->ZB,getElem?_eq_some_iff->ZC,eraseIdx_eq_take_drop_succ->ZE,mem_or_eq_of_mem_set->ZI,getElem?_eq_getElem->ZJ,any_eq_true->ZK,length->ZL,mem_cons->ZO
open Int renaming toNat_natCast->ZD
open Bool renaming and_self->ZF,and_true->ZG,not_false->ZM,not_true->ZN
namespace Go.Proofs.Tryz
open Go Go.Sx
noncomputable def Ycs(F:Nat):LK:=lC (Yai F) (lB [(217,Jr (Qs f217))])
noncomputable def c31(F:Nat)(a:List (Q9)):Option (Int):=
 bif decide (256<(↑(a.length):Int))then(some ((5:Int)))else((Qw (O:=Int) (β:=Int ⊕ Unit) (fun v15=>bif decide (v15<(↑(a.length):Int))then(gd (decide (0<=v15)) (gd (decide (v15<(↑(a.length):Int))) (gd (decide (v15.toNat<a.length)) ((c24 F (a.getD (v15.toNat) YA)).bind fun v16=>bif !decide (v16=0)then(some (Sum.inr (Sum.inl v16)))else(some (Sum.inl (w64 (v15+1))))))))else(some (Sum.inr (Sum.inr ())))) F ((0:Int))).bind fun v12=>Sum.elim (fun v13=>some (v13)) (fun v14=>some ((0:Int))) (v12))
noncomputable def Yb0(F:Nat):PC:={ats:=[.val (.seq Xq)],rts:=Zp,code:=c31 F}
theorem Zho(F:Nat):Qg cx 31 (Yb0 F):=qE (Ycs F) (Q7 2 (.two (.two .leaf (.one (.loop ⟨[.slot 3 (.val (.int .i64))],[]⟩ [(.ret,⟨[.slot 2 (.val (.int .i64))],[]⟩),(.exit 0,⟨[],[]⟩)] ⟨[14,15,16,17,18,4,21,2,20,19,3,13,12,11,10,9,8],[],[]⟩ F .leaf))) .leaf)) f31 (by kernel_rfl) fun a=>by kernel_rfl
noncomputable def Ymo(F:Nat):LK:=lC (Yju F) (lC (Zsr F) (lB [(217,Jr (Qs f217))]))
noncomputable def c32(F:Nat)(a:(Zs)×List (Q9)):Option ((Ql)×List (Int×Int)):=
 (Qw (O:=(Ql)×List (Int×Int)×Int×Int) (β:=(Ql)×List (Int×Int)) (fun v43=>bif decide (v43.2.2.2<(↑(a.2.length):Int))then((gd (decide (0<=v43.2.2.2)) (gd (decide (v43.2.2.2<(↑(a.2.length):Int))) (gd (decide (v43.2.2.2.toNat<a.2.length)) ((bif decide ((a.2.getD (v43.2.2.2.toNat) YA).1<v43.2.2.1)then(some ((11:Int)))else(gd (decide (0<=v43.2.2.2)) (gd (decide (v43.2.2.2<(↑(a.2.length):Int))) (gd (decide (v43.2.2.2.toNat<a.2.length)) ((c60 F (a.1,v43.1,(a.2.getD (v43.2.2.2.toNat) YA).1,(a.2.getD (v43.2.2.2.toNat) YA).2.1,(a.2.getD (v43.2.2.2.toNat) YA).2.2.1,(a.2.getD (v43.2.2.2.toNat) YA).2.2.2.1,(a.2.getD (v43.2.2.2.toNat) YA).2.2.2.2.1,(a.2.getD (v43.2.2.2.toNat) YA).2.2.2.2.2.1,(a.2.getD (v43.2.2.2.toNat) YA).2.2.2.2.2.2.1,(a.2.getD (v43.2.2.2.toNat) YA).2.2.2.2.2.2.2.1,(a.2.getD (v43.2.2.2.toNat) YA).2.2.2.2.2.2.2.2.1,(a.2.getD (v43.2.2.2.toNat) YA).2.2.2.2.2.2.2.2.2.1,(a.2.getD (v43.2.2.2.toNat) YA).2.2.2.2.2.2.2.2.2.2.1,(a.2.getD (v43.2.2.2.toNat) YA).2.2.2.2.2.2.2.2.2.2.2)).bind fun v48=>some (v48)))))).bind fun v46=>gd (decide (0<=v43.2.2.2)) (gd (decide (v43.2.2.2<(↑(a.2.length):Int))) (gd (decide (v43.2.2.2.toNat<a.2.length)) (bif !decide (v46=0)then(gd (decide (v43.2.1.length=v43.2.1.length)) (gd (decide (ZL (v43.2.1++(v43.2.2.2,v46)::Qa (Int×Int))*(16:Nat)<=(140737488355328:Nat))) (gd (decide (ZL (v43.2.1++(v43.2.2.2,v46)::Qa (Int×Int))<=9223372036854775807)) (gd (decide (ZL (v43.2.1++(v43.2.2.2,v46)::Qa (Int×Int))=ZL (v43.2.1++(v43.2.2.2,v46)::Qa (Int×Int)))&&true&&(true&&(true&&(true&&(true&&true)))&&(true&&true))) (some ((v43.1,v43.2.1++(v43.2.2.2,v46)::Qa (Int×Int),if v43.2.2.1<(a.2.getD (v43.2.2.2.toNat) YA).1 then(a.2.getD (v43.2.2.2.toNat) YA).1 else v43.2.2.1)))))))else(gd (decide (0<=v43.2.2.2)) (gd (decide (v43.2.2.2<(↑(a.2.length):Int))) (gd (decide (v43.2.2.2.toNat<a.2.length)) ((c62 F (v43.1,(a.2.getD (v43.2.2.2.toNat) YA).1,(a.2.getD (v43.2.2.2.toNat) YA).2.1,(a.2.getD (v43.2.2.2.toNat) YA).2.2.1,(a.2.getD (v43.2.2.2.toNat) YA).2.2.2.1,(a.2.getD (v43.2.2.2.toNat) YA).2.2.2.2.1,(a.2.getD (v43.2.2.2.toNat) YA).2.2.2.2.2.1,(a.2.getD (v43.2.2.2.toNat) YA).2.2.2.2.2.2.1,(a.2.getD (v43.2.2.2.toNat) YA).2.2.2.2.2.2.2.1,(a.2.getD (v43.2.2.2.toNat) YA).2.2.2.2.2.2.2.2.1,(a.2.getD (v43.2.2.2.toNat) YA).2.2.2.2.2.2.2.2.2.1,(a.2.getD (v43.2.2.2.toNat) YA).2.2.2.2.2.2.2.2.2.2.1,(a.2.getD (v43.2.2.2.toNat) YA).2.2.2.2.2.2.2.2.2.2.2)).bind fun v47=>gd (decide (v43.2.1.length=v43.2.1.length)&&true&&(true&&(true&&(true&&(true&&true)))&&(true&&true))) (some ((v47,v43.2.1,if v43.2.2.1<(a.2.getD (v43.2.2.2.toNat) YA).1 then(a.2.getD (v43.2.2.2.toNat) YA).1 else v43.2.2.1)))))))))))))).bind fun v44=>(gd (decide (v44.2.1.length=v44.2.1.length)&&true&&(true&&(true&&(true&&(true&&true)))&&(true&&(true&&true)))) (some ((v44.1,v44.2.1,v44.2.2,w64 (v43.2.2.2+1))))).bind fun v45=>some (Sum.inl v45))else((gd (decide (v43.2.1.length=v43.2.1.length)&&true&&(true&&(true&&(true&&(true&&true)))&&true)) (some ((v43.1,v43.2.1)))).bind fun v49=>some (Sum.inr v49))) F (((Qa ByteArray,Qa (Qz),Qa (Zb),Qa (Qh),Qa (Zc)),Qa (Int×Int),(0:Int),(0:Int)))).bind fun v42=>gd (true&&(true&&(true&&(true&&true)))&&decide ((0:Nat)+v42.2.length<=v42.2.length)) (some ((v42.1,List.take (v42.2.length) (List.drop (0:Nat) v42.2))))
noncomputable def Yce(F:Nat):PC:={ats:=Qsp,rts:=[.agg Zm,.val (.seq kt5)],code:=c32 F}
theorem Zly(F:Nat):Qg cx 32 (Yce F):=qE (Ymo F) (Q7 4 (.two (.two .leaf (.one (.virt 7 201 kt5 (.loop ⟨[.one 2 44 Zm,.vec 3 201 kt5,.slot 8 (.val (.int .i64)),.slot 9 (.val (.int .i64))],[(7,.own 3)]⟩ [(.exit 0,⟨[.one 2 44 Zm,.vec 3 201 kt5],[(7,.own 3)]⟩)] ⟨(10::kU 32 7 (8::kU 47 6 (kU 41 6 (7::40::39::kD 31 14 (9::kD 17 6 []))))),[2,3],[3]⟩ F (.two .leaf (.two (.join [(.normal,⟨[.one 2 44 Zm,.vec 3 201 kt5,.slot 8 (.val (.int .i64))],[(7,.own 3)]⟩)] ⟨(kU 18 14 (39::40::7::kD 46 6 (kD 52 6 (8::kD 38 7 (10::[]))))),[2,3],[3]⟩ (.one (.two .leaf (.two (.two .leaf (.join [(.normal,⟨[.slot 10 (.val (.int .i64))],[]⟩)] ⟨(kU 25 7 (10::[])),[],[]⟩ .leaf)) .leaf)))) .leaf)))))) .leaf)) f32 (by kernel_rfl) fun a=>by kernel_rfl
structure GrS (n:Nat) (s:Qi):Prop where
 c:s.1.length<=n
 a:s.2.1.length<=n
 l:s.2.2.1.length<=n
 e:s.2.2.2.1.length<=n
 t:s.2.2.2.2.length<=n
 cn:∀x∈s.1,x.size<=60
 an:∀x∈s.2.1,x.1.size<=60∧x.2.2.2.size<=60
 tn:∀x∈s.2.2.2.2,x.2.2.length<=10
theorem GrS.sm{n:Nat}{s:Qi}(h:GrS n s)(hn:n<=300):Zr s:=
 ⟨I h.c hn,I h.a hn,I h.l hn,I h.e hn,I h.t hn,fun x hx=>I (h.cn x hx) (by decide),fun x hx=>⟨I (h.an x hx).1 (by decide),I (h.an x hx).2 (by decide)⟩,fun x hx=>I (h.tn x hx) (by decide)⟩
theorem GrS.mono{n k:Nat}{s:Qi}(h:GrS n s)(hn:n<=k):GrS k s:=
 ⟨I h.c hn,I h.a hn,I h.l hn,I h.e hn,I h.t hn,h.cn,h.an,h.tn⟩
theorem Yo4:GrS 0 zS:=⟨ZH _,ZH _,ZH _,ZH _,ZH _,fun _ h=>(by cases h),fun _ h=>(by cases h),fun _ h=>(by cases h)⟩
theorem Qlm{α:Type}{l:List α}{x y:α}(h:y∈l++[x]):y∈l∨y=x:=by
 rcases List.mem_append.1 h with h|h
 ·exact .inl h
 ·exact .inr (List.mem_singleton.1 h)
theorem Zg1{n:Nat}{s:Qi}{a:Ya}(h:GrS n s)(ha:Zz (a.1,a.2.2)):GrS (n+1) (nxA s a):=by
 obtain⟨d,k,r⟩:=a;have hm:=h.mono (Nat.le_succ n);have ha:Zz (d,r):=ha;unfold nxA;split
 ·exact⟨by simp[U8];exact h.c,hm.a,hm.l,hm.e,hm.t,fun x hx=>(Qlm hx).elim (h.cn x) (fun e=>by rw[e];exact ha.c),h.an,h.tn⟩
 split
 ·exact⟨hm.c,by simp[U2];exact h.a,hm.l,hm.e,hm.t,h.cn,fun x hx=>(Qlm hx).elim (h.an x) (fun e=>by rw[e];exact⟨ha.a,ha.g⟩),h.tn⟩
 split
 ·exact⟨hm.c,hm.a,by simp[Qax];exact h.l,hm.e,hm.t,h.cn,h.an,h.tn⟩
 split
 ·refine⟨hm.c,by simp[Ui];exact hm.a,hm.l,hm.e,hm.t,h.cn,fun x hx=>?_,h.tn⟩;rcases ZI hx with hx|rfl
  ·exact h.an x hx
  ·show(Yv s r.1).1.size<=60∧(Yv s r.1).2.2.2.size<=60;unfold Yv;rw[List.getD_eq_getElem?_getD];cases e:s.2.1[(aI s r.1).toNat]? with
   |none=>exact⟨Nat.zero_le _,Nat.zero_le _⟩
   |some y=>exact h.an y (ZB e)
 split
 ·exact⟨hm.c,hm.a,hm.l,by simp[Qa9];exact h.e,hm.t,h.cn,h.an,h.tn⟩
 split
 ·exact⟨hm.c,hm.a,hm.l,by simp only[Qb6,R,List.length_take,List.length_drop];have:=h.e;omega,hm.t,h.cn,h.an,h.tn⟩
 split
 ·exact⟨hm.c,hm.a,hm.l,by simp[Qag];exact hm.e,hm.t,h.cn,h.an,h.tn⟩
 split
 ·unfold U3;split
  ·exact⟨hm.c,hm.a,hm.l,hm.e,by simp;exact h.t,h.cn,h.an,fun x hx=>(Qlm hx).elim (h.tn x) (fun e=>by rw[e];exact ha.n)⟩
  ·refine⟨hm.c,hm.a,hm.l,hm.e,by simp;exact hm.t,h.cn,h.an,fun x hx=>?_⟩;rcases ZI hx with hx|rfl
   ·exact h.tn x hx
   ·exact ha.n
 ·exact hm
def rpE(m:Mt)(s:Qi)(last:Int)(a:Ya):Int:=if a.1<last then 11 else lgA m s a
theorem Qxd{m:Mt}{s:Qi}{t:Int}{a:Ya}(h:rpE m s t a=0):¬a.1<t∧lgA m s a=0:=by
 unfold rpE at h;split at h
 ·cases h
 ·rename_i g;exact⟨g,h⟩
abbrev Rp:=Qi×List (Int×Int)×Int×Int
def rpS(m:Mt)(x:Rp)(a:Ya):Rp:=
 (if rpE m x.1 x.2.2.1 a=0 then nxA x.1 a else x.1,if rpE m x.1 x.2.2.1 a=0 then x.2.1 else x.2.1++[(x.2.2.2,rpE m x.1 x.2.2.1 a)],if x.2.2.1<a.1 then a.1 else x.2.2.1,x.2.2.2+1)
def rp0:Rp:=(zS,[],0,0)
structure Qq9 (l:List Ya):Prop where
 n:l.length<=256
 s:∀a∈l,Zz (a.1,a.2.2)
 e:∀a∈l,Yz a=0
structure RpI (i:Nat) (x:Rp):Prop where
 ix:x.2.2.2=i
 g:GrS i x.1
 o:x.2.1.length<=i
theorem Qo6{m:Mt}{i:Nat}{x:Rp}{a:Ya}(h:RpI i x)(ha:Zz (a.1,a.2.2)):RpI (i+1) (rpS m x a):=by
 refine⟨?_,?_,?_⟩
 ·show x.2.2.2+1=_;rw[h.ix];rfl
 ·unfold rpS;by_cases e:rpE m x.1 x.2.2.1 a=0
  ·simp only[e,if_true];exact Zg1 h.g ha
  ·simp only[e,if_false];exact h.g.mono (Nat.le_succ i)
 ·have:=h.o;unfold rpS;by_cases e:rpE m x.1 x.2.2.1 a=0
  ·simp only[e,if_true];omega
  ·simp only[e,if_false,R,ZA];omega
theorem Qpc{m:Mt}:∀{l:List Ya} {i:Nat} {x:Rp},RpI i x->(∀a∈l,Zz (a.1,a.2.2))->RpI (i+l.length) (l.foldl (rpS m) x)
 |[],i,x,h,_=>h
 |a::l,i,x,h,ha=>by have:=Qpc (m:=m) (l:=l) (Qo6 (m:=m) h (ha a (U ..))) (fun b hb=>ha b (J _ hb));rw[show i+(a::l).length=i+1+l.length by simp;omega];exact this
theorem Qhv:RpI 0 rp0:=⟨rfl,Yo4,ZH _⟩
def dA3:Ya:=YA
theorem Zyx(s:Qi):(s.1,s.2.1,s.2.2.1,s.2.2.2.1,s.2.2.2.2)=s:=rfl
theorem l31{F:Nat}(hF:700<=F){l:List Ya}(hl:l.length<=300)(hs:∀a∈l,Zz (a.1,a.2.2)):c31 F l=some (if 256<l.length then 5 else Qn (l.map Yz)):=by
 have hd:YA=dA3:=rfl;unfold c31;by_cases h:256<l.length
 ·have h':(256:Int)<l.length:=by omega
  simp only[h,h',decide_true,cond_true,if_true]
 ·have h':¬(256:Int)<l.length:=by omega
  simp only[h,h',decide_false,cond_false,if_false,hd];refine Qe8 l Yz (by omega) ?_ ?_ ?_
  ·intro i x hi hx;simp(disch:=omega)only[Z3,Zf,ZD,getD_some hx,Zy,Zj,l24 (show 400<=F by omega) (hs x (ZB hx)),C];by_cases e:Yz x=0<;>simp[e]
  ·simp(disch:=omega)only[Z0]
  ·by_cases h2:Qn (l.map Yz)=0<;>simp[h2]
theorem Zvh{F:Nat}(hF:700<=F){l:List Ya}(hl:l.length<=300)(hs:∀a∈l,Zz (a.1,a.2.2)):Qnn F l=some (if 256<l.length then 5 else Qn (l.map Yz)):=by
 have hd:YA=dA3:=rfl;have e190:Qr3 F l=some (Qn (l.map Yz)):=by
  unfold Qr3;simp only[hd];refine Qe8 l Yz (by omega) ?_ ?_ ?_
  ·intro i x hi hx;have e191:∀j,Qnz F (j,x)=some (Yz x):=fun j=>by unfold Qnz;simp only[Zj,l23 (show 400<=F by omega) (hs x (ZB hx)),C]
   simp(disch:=omega)only[Z3,Zf,ZD,getD_some hx,Zy,Zj,e191,C];by_cases e:Yz x=0<;>simp[e]
  ·simp(disch:=omega)only[Z0]
  ·by_cases h2:Qn (l.map Yz)=0<;>simp[h2]
 unfold Qnn;simp only[l86,e190,C,l84 (F:=F) (l:=_::_::Qa Int) (by simp[Qa];omega) (by simp[Qa])];by_cases h:256<l.length
 ·have h':(256:Int)<l.length:=by omega
  simp[h,h',Qn,Qa]
 ·have h':¬(256:Int)<l.length:=by omega
  by_cases h2:Qn (l.map Yz)=0<;>simp[h,h',h2,Qn,Qa]
theorem l32{F:Nat}(hF:700<=F){m:Mt}(hm:m.2.2.2.2.length<=300)(hv:Z4 m=0){l:List Ya}(ho:Qq9 l):c32 F (m,l)=some ((l.foldl (rpS m) rp0).1,(l.foldl (rpS m) rp0).2.1):=by
 have hd:YA=dA3:=rfl;have hn:=ho.n;have e1:∀y:Int×Int,y::Qa (Int×Int)=[y]:=fun _=>rfl;have hfin:=Qpc (m:=m) Qhv ho.s;unfold c32;simp only[hd];refine Jl l (fun(x:Rp) i=>(x.1,x.2.1,x.2.2.1,(i:Int))) (fun a x=>.inl (rpS m x a)) (fun x=>(x.1,x.2.1)) (fun i x=>RpI i x) rp0 (by omega) rfl Qhv ?_ ?_ ?_
 ·intro i a x hi ha hI;have hmem:=ZB ha;have st:=Zbh hF hm (hI.g.sm (by omega)) hv (ho.s a hmem) (ho.e a hmem);refine⟨?_,fun s' hs=>?_⟩
  ·have hix:=hI.ix;have hol:=hI.o;simp(disch:=omega)only[Z3,Zf,ZD,getD_some ha,Zy,Zj,e1];have hE:(bif decide (a.1<x.2.2.1)then some 11 else(c60 F (m,x.1,a)).bind fun v=>some v)=some (rpE m x.1 x.2.2.1 a):=by unfold rpE;by_cases g:a.1<x.2.2.1<;>simp[g,st.p60]
   have h1:(x.2.1++[((i:Int),rpE m x.1 x.2.2.1 a)]).length*16<=140737488355328:=by simp only[R,ZA];omega
   have h2:(x.2.1++[((i:Int),rpE m x.1 x.2.2.1 a)]).length<=9223372036854775807:=by simp only[R,ZA];omega
   simp only[hE,C];by_cases e:rpE m x.1 x.2.2.1 a=0
   ·have e2:=st.p62 (Qxd e).2;simp[e,e2,rpS,Q3,hix]
   ·simp only[e,decide_false,ZM,cond_true,Zf h1,Zf h2,decide_true,ZF,ZG,Q3,C];simp[e,rpS,hix]
  ·simp only[Sum.inl.injEq]at hs;subst hs;exact Qo6 hI (ho.s a hmem)
 ·intro x hI;simp(disch:=omega)only[Z0,decide_true,ZF,ZG,Q3,C]
 ·rw[Uw];simp[Q3]
theorem l29{F:Nat}(hF:700<=F){m:Mt}(hm:m.2.2.2.2.length<=300)(hb:∀x∈m.2.2.2.2,x.1.size<=300∧x.2.2.1.size<=300){l:List Ya}(hl:l.length<=300)(hs:∀a∈l,Zz (a.1,a.2.2)):
  c29 F (m,l)=some (if Qn [Z4 m,if 256<l.length then 5 else Qn (l.map Yz)]=0 then((l.foldl (rpS m) rp0).1,(l.foldl (rpS m) rp0).2.1,0)else(zS,[],Qn [Z4 m,if 256<l.length then 5 else Qn (l.map Yz)])):=by
 have hd:YA=dA3:=rfl;have e1:∀y:Int×Int,y::Qa (Int×Int)=[y]:=fun _=>rfl;unfold c29;simp only[Zj,hd,l21 (show 400<=F by omega) hm hb,Zvh hF hl hs,C,l84 (F:=F) (l:=_::_::Qa Int) (by simp[Qa];omega) (by simp[Qa])];generalize hE:Qn (Z4 m::(if 256<l.length then 5 else Qn (l.map Yz))::Qa Int)=E;have hE':Qn [Z4 m,if 256<l.length then 5 else Qn (l.map Yz)]=E:=hE;rw[hE'];by_cases h0:E=0
 ·subst h0;have hv:Z4 m=0:=Y1 hE' _ (U ..);have hz:=Y1 hE' _ (J _ (U ..));have hn:l.length<=256:=by
   by_cases h:256<l.length
   ·rw[if_pos h]at hz;exact absurd hz (by decide)
   ·omega
  rw[if_neg (by omega)]at hz;have ho:Qq9 l:=⟨hn,hs,fun a ha=>Y1 hz _ (List.mem_map.2 ⟨a,ha,rfl⟩)⟩;have hfin:=Qpc (m:=m) Qhv ho.s;simp only[decide_true,ZN,cond_false,if_true];refine Jl l (fun(x:Rp) i=>(x.1,(),x.2.1,x.2.2.1,(i:Int))) (fun a x=>.inl (rpS m x a)) (fun x=>(x.1,(),x.2.1)) (fun i x=>RpI i x) rp0 (by omega) rfl Qhv ?_ ?_ ?_
  ·intro i a x hi ha hI;have hmem:=ZB ha;have st:=Zbh hF hm (hI.g.sm (by omega)) hv (ho.s a hmem) (ho.e a hmem);refine⟨?_,fun s' hs=>?_⟩
   ·have hix:=hI.ix;have hol:=hI.o;simp(disch:=omega)only[Z3,Zf,ZD,getD_some ha,Zy,Zj,e1,l86,C];have hE:(bif decide ((if decide (a.1<x.2.2.1)=true then(11:Int)else 0)=0)then(Ju F (m,x.1,a)).bind fun v=>some v else some (if decide (a.1<x.2.2.1)=true then(11:Int)else 0))=some (rpE m x.1 x.2.2.1 a):=by unfold rpE;by_cases g:a.1<x.2.2.1<;>simp[g,st.p135]
    have h1:(x.2.1++[((i:Int),rpE m x.1 x.2.2.1 a)]).length*16<=140737488355328:=by simp only[R,ZA];omega
    have h2:(x.2.1++[((i:Int),rpE m x.1 x.2.2.1 a)]).length<=9223372036854775807:=by simp only[R,ZA];omega
    simp only[hE,C];by_cases e:rpE m x.1 x.2.2.1 a=0
    ·have em:=st.mv (Qxd e).2;unfold mvK at em;simp only[e,decide_true,cond_true,ZN,cond_false,em,C,ZF,ZG,Q3];simp[e,rpS,hix]
    ·simp only[e,decide_false,ZM,cond_true,cond_false,Zf h1,Zf h2,decide_true,ZF,ZG,Q3,C];simp[e,rpS,hix]
   ·simp only[Sum.inl.injEq]at hs;subst hs;exact Qo6 hI (ho.s a hmem)
  ·intro x hI;simp(disch:=omega)only[Z0,decide_true,ZF,ZG,Q3,C]
  ·rw[Uw];simp[Q3]
 ·simp only[h0,decide_false,ZM,cond_true,if_false];rfl
theorem Qey{l:List ByteArray}{x:ByteArray}:hasB l x=true↔x∈l:=by
 unfold hasB;rw[ZK];constructor
 ·rintro ⟨y,hy,e⟩
  rw[Yy.1 e]at hy;exact hy
 ·intro h;exact⟨x,h,Ku x⟩
theorem Zjd{l:List ByteArray}{x:ByteArray}:hasB l x=false↔x∉l:=by rw[<-Qey,Bool.not_eq_true]
theorem Quc(l:List ByteArray)(y x:ByteArray):hasB (l++[y]) x=(hasB l x||Qc y x):=by unfold hasB;rw[List.any_append];simp
def drE(s:Qi)(k:Nat):Qi:=(s.1,s.2.1,s.2.2.1,s.2.2.2.1.take k++s.2.2.2.1.drop (k+1),s.2.2.2.2)
theorem Qz8(l:List Qq)(k j:Nat):(l.take k++l.drop (k+1))[j]? =if j<k then l[j]? else l[j+1]? :=by rw[<-ZE,List.getElem?_eraseIdx]
theorem Ypu(l:List Qq)(k:Nat):(l.take k++l.drop (k+1)).length<=l.length:=by rw[<-ZE,List.length_eraseIdx];split<;>omega
def Qk6(m:Mt)(s:Qi)(x:Qq)(b:Bool):Int:=
 if aI s x.1<0∨cI m x.2.1<0 then 10 else if 0<(Zh m x.2.1).2.2.2.2.2.2.2.2.2.2 then 13
 else if b=true then 9
 else if Jv x.2.2.1 x.2.2.2.1 x.2.2.2.2.1=0 then(if Jj (Zh m x.2.1).2.1 x.2.2.1=true then(if Yq x.2.2.2.2.2.1=true then 3 else 0)else 13)
 else Jv x.2.2.1 x.2.2.2.1 x.2.2.2.2.1
theorem Yac{m:Mt}{s:Qi}{x:Qq}{b:Bool}(h:Qk6 m s x b=0):b=false:=by
 cases b with
 |false=>rfl
 |true=>
  unfold Qk6 at h;split at h
  ·omega
  ·split at h
   ·omega
   ·rw[if_pos rfl]at h;omega
theorem Zdl{m:Mt}{s:Qi}{i:Nat}{x:Qq}(hx:s.2.2.2.1[i]? =some x):Qbz m s i=Qk6 m s x ((s.2.2.2.1.take i).any (eP x.1 x.2.1)):=by unfold Qbz Qk6;rw[getD_some hx]
theorem Qjc:∀{l:List Int},(∀x∈l,x=0)->Qn l=0
 |[],_=>rfl
 |x::l,h=>by have h1:=h x (U ..);subst h1;have h2:=Qjc (l:=l) fun y hy=>h y (J _ hy);simpa[Qn]using h2
theorem Yqx{s:Qi}{k j:Nat}{p:Qq->Bool}(h:((drE s k).2.2.2.1.take j).any p=true):(s.2.2.2.1.take (if j<=k then j else j+1)).any p=true:=by
 rw[ZK]at h⊢;obtain⟨x,hx,hp⟩:=h;refine⟨x,?_,hp⟩;rw[List.mem_take_iff_getElem]at hx⊢;obtain⟨i,hi,e⟩:=hx;have e1:(drE s k).2.2.2.1[i]? =some x:=by rw[ZJ (by omega),e]
 have e2:=Qz8 s.2.2.2.1 k i;have e3:(if i<k then s.2.2.2.1[i]? else s.2.2.2.1[i+1]?)=some x:=e2.symm.trans e1;by_cases hik:i<k
 ·rw[if_pos hik]at e3;obtain⟨h1,h2⟩:=ZC.1 e3;refine⟨i,?_,h2⟩;split<;>omega
 ·rw[if_neg hik]at e3;obtain⟨h1,h2⟩:=ZC.1 e3;refine⟨i+1,?_,h2⟩;split<;>omega
theorem Ynj{m:Mt}{s:Qi}(hv:stE m s=0){k:Nat}(hk:k<s.2.2.2.1.length):stE m (drE s k)=0:=by
 have h1:=Ygp hv;have h2:¬K2 s:=fun h=>by rw[stE,if_pos h1,if_pos h]at hv;exact absurd hv (by decide)
 have h3:¬K2 (drE s k):=by have:=Ypu s.2.2.2.1 k;unfold K2 at h2⊢;show¬(256<s.1.length∨256<s.2.1.length∨256<s.2.2.1.length∨256<(s.2.2.2.1.take k++s.2.2.2.1.drop (k+1)).length∨256<s.2.2.2.2.length);omega
 have hv':=hv;rw[stE,if_pos h1,if_neg h2]at hv;rw[stE,if_pos h1,if_neg h3];have g:=Y1 hv;refine Qjc fun x hx=>?_;simp only[ZO,List.not_mem_nil,or_false]at hx;rcases hx with rfl|rfl|rfl|rfl|rfl
 ·exact g _ (by simp[drE])
 ·exact g _ (J _ (U ..))
 ·exact g _ (J _ (J _ (U ..)))
 ·refine Qjc fun y hy=>?_;rw[List.mem_map]at hy;obtain⟨j,hj,rfl⟩:=hy;rw[List.mem_range]at hj;have hx:(drE s k).2.2.2.1[j]? =some (drE s k).2.2.2.1[j]:=ZJ hj;generalize (drE s k).2.2.2.1[j]=x at hx;rw[Zdl hx];have e3:(if j<k then s.2.2.2.1[j]? else s.2.2.2.1[j+1]?)=some x:=(Qz8 s.2.2.2.1 k j).symm.trans hx;have key:∀i,s.2.2.2.1[i]? =some x->(i=if j<k then j else j+1)->Qk6 m (drE s k) x (((drE s k).2.2.2.1.take j).any (eP x.1 x.2.1))=0:=by
   intro i hi hij;have q1:Qbz m s i=0:=Qwd hv' (ZC.1 hi).1;rw[Zdl hi]at q1;have q2:=Yac q1;have q3:((drE s k).2.2.2.1.take j).any (eP x.1 x.2.1)=false:=by
    cases e:((drE s k).2.2.2.1.take j).any (eP x.1 x.2.1)with
    |false=>rfl
    |true=>
     have q4:=Yqx e;by_cases hjk:j<k
     ·rw[if_pos hjk]at hij;subst hij;rw[if_pos (by omega),q2]at q4;exact q4.symm
     ·rw[if_neg hjk]at hij;subst hij;by_cases hjk2:j<=k
      ·rw[if_pos hjk2]at q4;rw[ZK]at q4;obtain⟨z,hz,hp⟩:=q4;rw[List.any_eq_false]at q2;exact absurd hp (q2 z ((List.take_subset_take_left _ (by omega)) hz))
      ·rw[if_neg hjk2,q2]at q4;exact q4.symm
   rw[q3,<-q2];exact q1
  by_cases hjk:j<k
  ·rw[if_pos hjk]at e3;exact key j e3 (by rw[if_pos hjk])
  ·rw[if_neg hjk]at e3;exact key (j+1) e3 (by rw[if_neg hjk])
 ·exact g _ (by simp only[ZO];exact .inr (.inr (.inr (.inr (.inl rfl)))))
end Go.Proofs.Tryz
