/- Functions of the program as functions of data. By program. Replay of both: the acts one after another. And further parts. -/
import Derived.Test.YtpkbmngnolhopaaGreatDoorXTeD62
import Derived.Test.YtpkbmngnolhopaaGreatDoorXT4a
import Derived.Test.YtpkbmngnolhopaaGreatDoorXTeR
import Derived.Test.YtpkbmngnolhopaaGreatDoorXT3u
import Derived.Test.YtpkbmngnolhopaaGreatDoorXT3z
set_option maxRecDepth 100000
set_option linter.all false
set_option linter.unusedVariables false
set_option linter.unusedSimpArgs false
open Nat renaming le_trans->C,le_refl->ZF
open Option renaming bind_some->I
open List renaming mem_cons_of_mem->J,mem_cons_self->R,mem_of_getElem?->ZA,getElem?_eq_some_iff->ZB,length_append->ZC,eraseIdx_eq_take_drop_succ->ZD,length_singleton->ZE,mem_or_eq_of_mem_set->ZG,getElem?_eq_getElem->ZH,any_eq_true->ZI,mem_cons->ZJ
namespace Go.Proofs.Tryz
open Go Go.Sx
noncomputable def Ynz(F:Nat):LK:=lC (Yar F) (lB [(217,Xy (Qo f217))])
noncomputable def c31(F:Nat)(a:List (Qz)):Option (Int):=
 bif decide (256<(↑(a.length):Int))then(some ((5:Int)))else((Q4 (U:=Int) (β:=Int ⊕ Unit) (fun v15=>bif decide (v15<(↑(a.length):Int))then(gd (decide (0<=v15)) (gd (decide (v15<(↑(a.length):Int))) (gd (decide (v15.toNat<a.length)) ((c24 F (a.getD (v15.toNat) YA)).bind fun v16=>bif !decide (v16=0)then(some (Sum.inr (Sum.inl v16)))else(some (Sum.inl (w64 (v15+1))))))))else(some (Sum.inr (Sum.inr ())))) F ((0:Int))).bind fun v12=>Sum.elim (fun v13=>some (v13)) (fun v14=>some ((0:Int))) (v12))
noncomputable def Yd9(F:Nat):PC:={ats:=[.val (.seq Xe)],rts:=Zj,code:=c31 F}
theorem Zrt(F:Nat):Qg cx 31 (Yd9 F):=qE (Ynz F) (Q5 2 (.two (.two .leaf (.one (.loop ⟨[.slot 3 (.val (.int .i64))],[]⟩ [(.ret,⟨[.slot 2 (.val (.int .i64))],[]⟩),(.exit 0,⟨[],[]⟩)] ⟨[14,15,16,17,18,4,21,2,20,19,3,13,12,11,10,9,8],[],[]⟩ F .leaf))) .leaf)) f31 (by kernel_rfl) fun a=>by kernel_rfl
noncomputable def Zna(F:Nat):LK:=lC (Yqu F) (lC (Yit F) (lB [(217,Xy (Qo f217))]))
noncomputable def Ydv(F:Nat):PC:=qT (Zna F) (Q5 4 (.two (.two .leaf (.one (.virt 7 201 kt5 (.loop ⟨[.one 2 44 Ze,.vec 3 201 kt5,.slot 8 (.val (.int .i64)),.slot 9 (.val (.int .i64))],[(7,.own 3)]⟩ [(.exit 0,⟨[.one 2 44 Ze,.vec 3 201 kt5],[(7,.own 3)]⟩)] ⟨(10::kU 32 7 (8::kU 47 6 (kU 41 6 (7::40::39::kD 31 14 (9::kD 17 6 []))))),[2,3],[3]⟩ F (.two .leaf (.two (.join [(.normal,⟨[.one 2 44 Ze,.vec 3 201 kt5,.slot 8 (.val (.int .i64))],[(7,.own 3)]⟩)] ⟨(kU 18 14 (39::40::7::kD 46 6 (kD 52 6 (8::kD 38 7 (10::[]))))),[2,3],[3]⟩ (.one (.two .leaf (.two (.two .leaf (.join [(.normal,⟨[.slot 10 (.val (.int .i64))],[]⟩)] ⟨(kU 25 7 (10::[])),[],[]⟩ .leaf)) .leaf)))) .leaf)))))) .leaf)) f32 Qwy [.agg Ze,.val (.seq kt5)]
noncomputable def c32(F:Nat):=(Ydv F).code
structure GrS (n:Nat) (s:Qj):Prop where
 c:s.1.length<=n
 a:s.2.1.length<=n
 l:s.2.2.1.length<=n
 e:s.2.2.2.1.length<=n
 t:s.2.2.2.2.length<=n
 cn:∀x∈s.1,x.size<=60
 an:∀x∈s.2.1,x.1.size<=60∧x.2.2.2.size<=60
 tn:∀x∈s.2.2.2.2,x.2.2.length<=10
theorem GrS.sm{n:Nat}{s:Qj}(h:GrS n s)(hn:n<=300):Za s:=
 ⟨C h.c hn,C h.a hn,C h.l hn,C h.e hn,C h.t hn,fun x hx=>C (h.cn x hx) (by decide),fun x hx=>⟨C (h.an x hx).1 (by decide),C (h.an x hx).2 (by decide)⟩,fun x hx=>C (h.tn x hx) (by decide)⟩
theorem GrS.mono{n k:Nat}{s:Qj}(h:GrS n s)(hn:n<=k):GrS k s:=
 ⟨C h.c hn,C h.a hn,C h.l hn,C h.e hn,C h.t hn,h.cn,h.an,h.tn⟩
theorem Yjp:GrS 0 zS:=⟨ZF _,ZF _,ZF _,ZF _,ZF _,fun _ h=>(by cases h),fun _ h=>(by cases h),fun _ h=>(by cases h)⟩
theorem Qrt{α:Type}{l:List α}{x y:α}(h:y∈l++[x]):y∈l∨y=x:=by
 rcases List.mem_append.1 h with h|h
 ·exact .inl h
 ·exact .inr (List.mem_singleton.1 h)
theorem Qw7{n:Nat}{s:Qj}{a:Yk}(h:GrS n s)(ha:Zs (a.1,a.2.2)):GrS (n+1) (nxA s a):=by
 obtain⟨d,k,r⟩:=a;have hm:=h.mono (Nat.le_succ n);have ha:Zs (d,r):=ha;unfold nxA;split
 ·exact⟨by simp[Jy];exact h.c,hm.a,hm.l,hm.e,hm.t,fun x hx=>(Qrt hx).elim (h.cn x) (fun e=>by rw[e];exact ha.c),h.an,h.tn⟩
 split
 ·exact⟨hm.c,by simp[Jw];exact h.a,hm.l,hm.e,hm.t,h.cn,fun x hx=>(Qrt hx).elim (h.an x) (fun e=>by rw[e];exact⟨ha.a,ha.g⟩),h.tn⟩
 split
 ·exact⟨hm.c,hm.a,by simp[J5];exact h.l,hm.e,hm.t,h.cn,h.an,h.tn⟩
 split
 ·refine⟨hm.c,by simp[Ju];exact hm.a,hm.l,hm.e,hm.t,h.cn,fun x hx=>?_,h.tn⟩;rcases ZG hx with hx|rfl
  ·exact h.an x hx
  ·show(Y1 s r.1).1.size<=60∧(Y1 s r.1).2.2.2.size<=60;unfold Y1;rw[List.getD_eq_getElem?_getD];cases e:s.2.1[(aI s r.1).toNat]? with
   |none=>exact⟨Nat.zero_le _,Nat.zero_le _⟩
   |some y=>exact h.an y (ZA e)
 split
 ·exact⟨hm.c,hm.a,hm.l,by simp[Wa];exact h.e,hm.t,h.cn,h.an,h.tn⟩
 split
 ·exact⟨hm.c,hm.a,hm.l,by simp only[Wj,ZC,List.length_take,List.length_drop];have:=h.e;omega,hm.t,h.cn,h.an,h.tn⟩
 split
 ·exact⟨hm.c,hm.a,hm.l,by simp[J9];exact hm.e,hm.t,h.cn,h.an,h.tn⟩
 split
 ·unfold Ji;split
  ·exact⟨hm.c,hm.a,hm.l,hm.e,by simp;exact h.t,h.cn,h.an,fun x hx=>(Qrt hx).elim (h.tn x) (fun e=>by rw[e];exact ha.n)⟩
  ·refine⟨hm.c,hm.a,hm.l,hm.e,by simp;exact hm.t,h.cn,h.an,fun x hx=>?_⟩;rcases ZG hx with hx|rfl
   ·exact h.tn x hx
   ·exact ha.n
 ·exact hm
def rpE(m:Mt)(s:Qj)(last:Int)(a:Yk):Int:=if a.1<last then 11 else lgA m s a
theorem Qtu{m:Mt}{s:Qj}{t:Int}{a:Yk}(h:rpE m s t a=0):¬a.1<t∧lgA m s a=0:=by
 unfold rpE at h;split at h
 ·cases h
 ·rename_i g;exact⟨g,h⟩
abbrev Rp:=Qj×List (Int×Int)×Int×Int
def Zw(m:Mt)(x:Rp)(a:Yk):Rp:=
 (if rpE m x.1 x.2.2.1 a=0 then nxA x.1 a else x.1,if rpE m x.1 x.2.2.1 a=0 then x.2.1 else x.2.1++[(x.2.2.2,rpE m x.1 x.2.2.1 a)],if x.2.2.1<a.1 then a.1 else x.2.2.1,x.2.2.2+1)
def Ys:Rp:=(zS,[],0,0)
structure Qvl (l:List Yk):Prop where
 n:l.length<=256
 s:∀a∈l,Zs (a.1,a.2.2)
 e:∀a∈l,Z1 a=0
structure RpI (i:Nat) (x:Rp):Prop where
 ix:x.2.2.2=i
 g:GrS i x.1
 o:x.2.1.length<=i
theorem Zf7{m:Mt}{i:Nat}{x:Rp}{a:Yk}(h:RpI i x)(ha:Zs (a.1,a.2.2)):RpI (i+1) (Zw m x a):=by
 refine⟨?_,?_,?_⟩
 ·show x.2.2.2+1=_;rw[h.ix];rfl
 ·unfold Zw;by_cases e:rpE m x.1 x.2.2.1 a=0
  ·simp only[e,if_true];exact Qw7 h.g ha
  ·simp only[e,if_false];exact h.g.mono (Nat.le_succ i)
 ·have:=h.o;unfold Zw;by_cases e:rpE m x.1 x.2.2.1 a=0
  ·simp only[e,if_true];omega
  ·simp only[e,if_false,ZC,ZE];omega
theorem Qib{m:Mt}:∀{l:List Yk} {i:Nat} {x:Rp},RpI i x->(∀a∈l,Zs (a.1,a.2.2))->RpI (i+l.length) (l.foldl (Zw m) x)
 |[],i,x,h,_=>h
 |a::l,i,x,h,ha=>by have:=Qib (m:=m) (l:=l) (Zf7 (m:=m) h (ha a (R ..))) (fun b hb=>ha b (J _ hb));rw[show i+(a::l).length=i+1+l.length by simp;omega];exact this
theorem Qi1:RpI 0 Ys:=⟨rfl,Yjp,ZF _⟩
def dA3:Yk:=YA
theorem l31{F:Nat}(hF:700<=F){l:List Yk}(hl:l.length<=300)(hs:∀a∈l,Zs (a.1,a.2.2)):c31 F l=some (if 256<l.length then 5 else Qk (l.map Z1)):=by
 have hd:YA=dA3:=rfl;unfold c31;by_cases h:256<l.length
 ·have h':(256:Int)<l.length:=by omega
  simp only[h,h',decide_true,cond_true,if_true]
 ·have h':¬(256:Int)<l.length:=by omega
  simp only[h,h',decide_false,cond_false,if_false,hd];refine Qgk l Z1 (by omega) ?_ ?_ ?_
  ·intro i x hi hx;simp(disch:=omega)only[Zx,Zf,Int.toNat_natCast,getD_some hx,Zv,Q3,l24 (show 400<=F by omega) (hs x (ZA hx)),I];by_cases e:Z1 x=0<;>simp[e]
  ·simp(disch:=omega)only[Zz]
  ·by_cases h2:Qk (l.map Z1)=0<;>simp[h2]
theorem Yrs{F:Nat}(hF:700<=F){l:List Yk}(hl:l.length<=300)(hs:∀a∈l,Zs (a.1,a.2.2)):Qkn F l=some (if 256<l.length then 5 else Qk (l.map Z1)):=by
 have hd:YA=dA3:=rfl;have e190:Qoo F l=some (Qk (l.map Z1)):=by
  unfold Qoo;simp only[hd];refine Qgk l Z1 (by omega) ?_ ?_ ?_
  ·intro i x hi hx;have e191:∀j,Qn8 F (j,x)=some (Z1 x):=fun j=>by unfold Qn8;simp only[Q3,l23 (show 400<=F by omega) (hs x (ZA hx)),I]
   simp(disch:=omega)only[Zx,Zf,Int.toNat_natCast,getD_some hx,Zv,Q3,e191,I];by_cases e:Z1 x=0<;>simp[e]
  ·simp(disch:=omega)only[Zz]
  ·by_cases h2:Qk (l.map Z1)=0<;>simp[h2]
 unfold Qkn;simp only[l86,e190,I,l84 (F:=F) (l:=_::_::Qa Int) (by simp[Qa];omega) (by simp[Qa])];by_cases h:256<l.length
 ·have h':(256:Int)<l.length:=by omega
  simp[h,h',Qk,Qa]
 ·have h':¬(256:Int)<l.length:=by omega
  by_cases h2:Qk (l.map Z1)=0<;>simp[h,h',h2,Qk,Qa]
theorem l29{F:Nat}(hF:700<=F){m:Mt}(hm:m.2.2.2.2.length<=300)(hb:∀x∈m.2.2.2.2,x.1.size<=300∧x.2.2.1.size<=300){l:List Yk}(hl:l.length<=300)(hs:∀a∈l,Zs (a.1,a.2.2)):
  c29 F (m,l)=some (if Qk [Yg m,if 256<l.length then 5 else Qk (l.map Z1)]=0 then((l.foldl (Zw m) Ys).1,(l.foldl (Zw m) Ys).2.1,0)else(zS,[],Qk [Yg m,if 256<l.length then 5 else Qk (l.map Z1)])):=by
 have hd:YA=dA3:=rfl;have e1:∀y:Int×Int,y::Qa (Int×Int)=[y]:=fun _=>rfl;unfold c29;simp only[Q3,hd,l21 (show 400<=F by omega) hm hb,Yrs hF hl hs,I,l84 (F:=F) (l:=_::_::Qa Int) (by simp[Qa];omega) (by simp[Qa])];generalize hE:Qk (Yg m::(if 256<l.length then 5 else Qk (l.map Z1))::Qa Int)=E;have hE':Qk [Yg m,if 256<l.length then 5 else Qk (l.map Z1)]=E:=hE;rw[hE'];by_cases h0:E=0
 ·subst h0;have hv:Yg m=0:=X1 hE' _ (R ..);have hz:=X1 hE' _ (J _ (R ..));have hn:l.length<=256:=by
   by_cases h:256<l.length
   ·rw[if_pos h]at hz;exact absurd hz (by decide)
   ·omega
  rw[if_neg (by omega)]at hz;have ho:Qvl l:=⟨hn,hs,fun a ha=>X1 hz _ (List.mem_map.2 ⟨a,ha,rfl⟩)⟩;have hfin:=Qib (m:=m) Qi1 ho.s;simp only[decide_true,Bool.not_true,cond_false,if_true];refine Jh l (fun(x:Rp) i=>(x.1,(),x.2.1,x.2.2.1,(i:Int))) (fun a x=>.inl (Zw m x a)) (fun x=>(x.1,(),x.2.1)) (fun i x=>RpI i x) Ys (by omega) rfl Qi1 ?_ ?_ ?_
  ·intro i a x hi ha hI;have hmem:=ZA ha;have st:=Zr0 hF hm (hI.g.sm (by omega)) hv (ho.s a hmem) (ho.e a hmem);refine⟨?_,fun s' hs=>?_⟩
   ·have hix:=hI.ix;have hol:=hI.o;simp(disch:=omega)only[Zx,Zf,Int.toNat_natCast,getD_some ha,Zv,Q3,e1,l86,I];have hE:(bif decide ((if decide (a.1<x.2.2.1)=true then(11:Int)else 0)=0)then(Je F (m,x.1,a)).bind fun v=>some v else some (if decide (a.1<x.2.2.1)=true then(11:Int)else 0))=some (rpE m x.1 x.2.2.1 a):=by unfold rpE;by_cases g:a.1<x.2.2.1<;>simp[g,st.p135]
    have h1:(x.2.1++[((i:Int),rpE m x.1 x.2.2.1 a)]).length*16<=140737488355328:=by simp only[ZC,ZE];omega
    have h2:(x.2.1++[((i:Int),rpE m x.1 x.2.2.1 a)]).length<=9223372036854775807:=by simp only[ZC,ZE];omega
    simp only[hE,I];by_cases e:rpE m x.1 x.2.2.1 a=0
    ·have em:=st.mv (Qtu e).2;unfold mvK at em;simp only[e,decide_true,cond_true,Bool.not_true,cond_false,em,I,Bool.and_self,Bool.and_true,Zh];simp[e,Zw,hix]
    ·simp only[e,decide_false,Bool.not_false,cond_true,cond_false,Zf h1,Zf h2,decide_true,Bool.and_self,Bool.and_true,Zh,I];simp[e,Zw,hix]
   ·simp only[Sum.inl.injEq]at hs;subst hs;exact Zf7 hI (ho.s a hmem)
  ·intro x hI;simp(disch:=omega)only[Zz,decide_true,Bool.and_self,Bool.and_true,Zh,I]
  ·rw[Qi4];simp[Zh]
 ·simp only[h0,decide_false,Bool.not_false,cond_true,if_false];rfl
theorem Yem(l:List ByteArray)(y x:ByteArray):hasB (l++[y]) x=(hasB l x||Qc y x):=by unfold hasB;rw[List.any_append];simp
def drE(s:Qj)(k:Nat):Qj:=(s.1,s.2.1,s.2.2.1,s.2.2.2.1.take k++s.2.2.2.1.drop (k+1),s.2.2.2.2)
theorem Zjt(l:List Zo)(k j:Nat):(l.take k++l.drop (k+1))[j]? =if j<k then l[j]? else l[j+1]? :=by rw[<-ZD,List.getElem?_eraseIdx]
theorem Zw8(l:List Zo)(k:Nat):(l.take k++l.drop (k+1)).length<=l.length:=by rw[<-ZD,List.length_eraseIdx];split<;>omega
def Qkc(m:Mt)(s:Qj)(x:Zo)(b:Bool):Int:=
 if aI s x.1<0∨cI m x.2.1<0 then 10 else if 0<(Z3 m x.2.1).2.2.2.2.2.2.2.2.2.2 then 13
 else if b=true then 9
 else if Jq x.2.2.1 x.2.2.2.1 x.2.2.2.2.1=0 then(if Jo (Z3 m x.2.1).2.1 x.2.2.1=true then(if Yj x.2.2.2.2.2.1=true then 3 else 0)else 13)
 else Jq x.2.2.1 x.2.2.2.1 x.2.2.2.2.1
theorem Ybs{m:Mt}{s:Qj}{x:Zo}{b:Bool}(h:Qkc m s x b=0):b=false:=by
 cases b with
 |false=>rfl
 |true=>
  unfold Qkc at h;split at h
  ·omega
  ·split at h
   ·omega
   ·rw[if_pos rfl]at h;omega
theorem Zls{m:Mt}{s:Qj}{i:Nat}{x:Zo}(hx:s.2.2.2.1[i]? =some x):Wn m s i=Qkc m s x ((s.2.2.2.1.take i).any (eP x.1 x.2.1)):=by unfold Wn Qkc;rw[getD_some hx]
theorem Qhj:∀{l:List Int},(∀x∈l,x=0)->Qk l=0
 |[],_=>rfl
 |x::l,h=>by have h1:=h x (R ..);subst h1;have h2:=Qhj (l:=l) fun y hy=>h y (J _ hy);simpa[Qk]using h2
theorem Yga{s:Qj}{k j:Nat}{p:Zo->Bool}(h:((drE s k).2.2.2.1.take j).any p=true):(s.2.2.2.1.take (if j<=k then j else j+1)).any p=true:=by
 rw[ZI]at h⊢;obtain⟨x,hx,hp⟩:=h;refine⟨x,?_,hp⟩;rw[List.mem_take_iff_getElem]at hx⊢;obtain⟨i,hi,e⟩:=hx;have e1:(drE s k).2.2.2.1[i]? =some x:=by rw[ZH (by omega),e]
 have e2:=Zjt s.2.2.2.1 k i;have e3:(if i<k then s.2.2.2.1[i]? else s.2.2.2.1[i+1]?)=some x:=e2.symm.trans e1;by_cases hik:i<k
 ·rw[if_pos hik]at e3;obtain⟨h1,h2⟩:=ZB.1 e3;refine⟨i,?_,h2⟩;split<;>omega
 ·rw[if_neg hik]at e3;obtain⟨h1,h2⟩:=ZB.1 e3;refine⟨i+1,?_,h2⟩;split<;>omega
theorem Zxo{m:Mt}{s:Qj}(hv:Yi m s=0){k:Nat}(hk:k<s.2.2.2.1.length):Yi m (drE s k)=0:=by
 have h1:=Wt hv;have h2:¬Wm s:=fun h=>by rw[Yi,if_pos h1,if_pos h]at hv;exact absurd hv (by decide)
 have h3:¬Wm (drE s k):=by have:=Zw8 s.2.2.2.1 k;unfold Wm at h2⊢;show¬(256<s.1.length∨256<s.2.1.length∨256<s.2.2.1.length∨256<(s.2.2.2.1.take k++s.2.2.2.1.drop (k+1)).length∨256<s.2.2.2.2.length);omega
 have hv':=hv;rw[Yi,if_pos h1,if_neg h2]at hv;rw[Yi,if_pos h1,if_neg h3];have g:=X1 hv;refine Qhj fun x hx=>?_;simp only[ZJ,List.not_mem_nil,or_false]at hx;rcases hx with rfl|rfl|rfl|rfl|rfl
 ·exact g _ (by simp[drE])
 ·exact g _ (J _ (R ..))
 ·exact g _ (J _ (J _ (R ..)))
 ·refine Qhj fun y hy=>?_;rw[List.mem_map]at hy;obtain⟨j,hj,rfl⟩:=hy;rw[List.mem_range]at hj;have hx:(drE s k).2.2.2.1[j]? =some (drE s k).2.2.2.1[j]:=ZH hj;generalize (drE s k).2.2.2.1[j]=x at hx;rw[Zls hx];have e3:(if j<k then s.2.2.2.1[j]? else s.2.2.2.1[j+1]?)=some x:=(Zjt s.2.2.2.1 k j).symm.trans hx;have key:∀i,s.2.2.2.1[i]? =some x->(i=if j<k then j else j+1)->Qkc m (drE s k) x (((drE s k).2.2.2.1.take j).any (eP x.1 x.2.1))=0:=by
   intro i hi hij;have q1:Wn m s i=0:=Yfn hv' (ZB.1 hi).1;rw[Zls hi]at q1;have q2:=Ybs q1;have q3:((drE s k).2.2.2.1.take j).any (eP x.1 x.2.1)=false:=by
    cases e:((drE s k).2.2.2.1.take j).any (eP x.1 x.2.1)with
    |false=>rfl
    |true=>
     have q4:=Yga e;by_cases hjk:j<k
     ·rw[if_pos hjk]at hij;subst hij;rw[if_pos (by omega),q2]at q4;exact q4.symm
     ·rw[if_neg hjk]at hij;subst hij;by_cases hjk2:j<=k
      ·rw[if_pos hjk2]at q4;rw[ZI]at q4;obtain⟨z,hz,hp⟩:=q4;rw[List.any_eq_false]at q2;exact absurd hp (q2 z ((List.take_subset_take_left _ (by omega)) hz))
      ·rw[if_neg hjk2,q2]at q4;exact q4.symm
   rw[q3,<-q2];exact q1
  by_cases hjk:j<k
  ·rw[if_pos hjk]at e3;exact key j e3 (by rw[if_pos hjk])
  ·rw[if_neg hjk]at e3;exact key (j+1) e3 (by rw[if_neg hjk])
 ·exact g _ (by simp only[ZJ];exact .inr (.inr (.inr (.inr (.inl rfl)))))
end Go.Proofs.Tryz
