/- Functions of the program as functions of data. By program. Replay of both: the acts one after another. And further parts. -/
import Derived.Test.YtpkbmngnolhopaaGreatDoorXTeD62
import Derived.Test.YtpkbmngnolhopaaGreatDoorXT3y
import Derived.Test.YtpkbmngnolhopaaGreatDoorXTeR
import Derived.Test.YtpkbmngnolhopaaGreatDoorXT3f
import Derived.Test.YtpkbmngnolhopaaGreatDoorXT3i
set_option maxRecDepth 100000
set_option linter.all false
set_option linter.unusedVariables false
set_option linter.unusedSimpArgs false
namespace Go.Proofs.Tryz
open Go Go.Sx
noncomputable def Ztm(F:Nat):LK:=lC (Zlb F) (lB [(217,Jv (Qr f217))])
noncomputable def c31(F:Nat)(a:List (Q6)):Option (Int):=
 bif decide (256<(↑(a.length):Int))then(some ((5:Int)))else((Q5 (σ:=Int) (β:=Int ⊕ Unit) (fun(v15:Int)=>bif decide (v15<(↑(a.length):Int))then(gd (decide (0≤v15)) (gd (decide (v15<(↑(a.length):Int))) (gd (decide (v15.toNat<a.length)) ((c24 F (a.getD (v15.toNat) ((0:Int),ByteArray.empty,ByteArray.empty,ByteArray.empty,ByteArray.empty,ByteArray.empty,(0:Int),(0:Int),ByteArray.empty,(0:Int),ByteArray.empty,Qa ByteArray))).bind fun(v16:Int)=>bif !decide (v16=0)then(some (Sum.inr (Sum.inl v16)))else(some (Sum.inl (w64 (v15+1))))))))else(some (Sum.inr (Sum.inr ())))) F ((0:Int))).bind fun(v12:Int ⊕ Unit)=>Sum.elim (fun(v13:Int)=>some (v13)) (fun(v14:Unit)=>some ((0:Int))) (v12))
noncomputable def Zxy(F:Nat):PC:={ats:=[.val (.seq Xn)],rts:=Zi,code:=c31 F}
theorem Zo6(F:Nat):Qg cx 31 (Zxy F):=qE (Ztm F) (Q8 2 (.two (.two .leaf (.one (.loop ⟨[.slot 3 (.val (.int .i64))],[]⟩ [(.ret,⟨[.slot 2 (.val (.int .i64))],[]⟩),(.exit 0,⟨[],[]⟩)] ⟨[14,15,16,17,18,4,21,2,20,19,3,13,12,11,10,9,8],[],[]⟩ F .leaf))) .leaf)) f31 (by kernel_rfl) fun a=>by kernel_rfl
noncomputable def Yf8(F:Nat):LK:=lC (Zsu F) (lC (Zwt F) (lB [(217,Jv (Qr f217))]))
noncomputable def c32(F:Nat)(a:(Zo)×List (Q6)):Option ((Qk)×List (Int×Int)):=
 (Q5 (σ:=(Qk)×List (Int×Int)×Int×Int) (β:=(Qk)×List (Int×Int)) (fun(v43:(Qk)×List (Int×Int)×Int×Int)=>bif decide (v43.2.2.2<(↑(a.2.length):Int))then((gd (decide (0≤v43.2.2.2)) (gd (decide (v43.2.2.2<(↑(a.2.length):Int))) (gd (decide (v43.2.2.2.toNat<a.2.length)) ((bif decide ((a.2.getD (v43.2.2.2.toNat) ((0:Int),ByteArray.empty,ByteArray.empty,ByteArray.empty,ByteArray.empty,ByteArray.empty,(0:Int),(0:Int),ByteArray.empty,(0:Int),ByteArray.empty,Qa ByteArray)).1<v43.2.2.1)then(some ((11:Int)))else(gd (decide (0≤v43.2.2.2)) (gd (decide (v43.2.2.2<(↑(a.2.length):Int))) (gd (decide (v43.2.2.2.toNat<a.2.length)) ((c60 F (a.1,v43.1,(a.2.getD (v43.2.2.2.toNat) ((0:Int),ByteArray.empty,ByteArray.empty,ByteArray.empty,ByteArray.empty,ByteArray.empty,(0:Int),(0:Int),ByteArray.empty,(0:Int),ByteArray.empty,Qa ByteArray)).1,(a.2.getD (v43.2.2.2.toNat) ((0:Int),ByteArray.empty,ByteArray.empty,ByteArray.empty,ByteArray.empty,ByteArray.empty,(0:Int),(0:Int),ByteArray.empty,(0:Int),ByteArray.empty,Qa ByteArray)).2.1,(a.2.getD (v43.2.2.2.toNat) ((0:Int),ByteArray.empty,ByteArray.empty,ByteArray.empty,ByteArray.empty,ByteArray.empty,(0:Int),(0:Int),ByteArray.empty,(0:Int),ByteArray.empty,Qa ByteArray)).2.2.1,(a.2.getD (v43.2.2.2.toNat) ((0:Int),ByteArray.empty,ByteArray.empty,ByteArray.empty,ByteArray.empty,ByteArray.empty,(0:Int),(0:Int),ByteArray.empty,(0:Int),ByteArray.empty,Qa ByteArray)).2.2.2.1,(a.2.getD (v43.2.2.2.toNat) ((0:Int),ByteArray.empty,ByteArray.empty,ByteArray.empty,ByteArray.empty,ByteArray.empty,(0:Int),(0:Int),ByteArray.empty,(0:Int),ByteArray.empty,Qa ByteArray)).2.2.2.2.1,(a.2.getD (v43.2.2.2.toNat) ((0:Int),ByteArray.empty,ByteArray.empty,ByteArray.empty,ByteArray.empty,ByteArray.empty,(0:Int),(0:Int),ByteArray.empty,(0:Int),ByteArray.empty,Qa ByteArray)).2.2.2.2.2.1,(a.2.getD (v43.2.2.2.toNat) ((0:Int),ByteArray.empty,ByteArray.empty,ByteArray.empty,ByteArray.empty,ByteArray.empty,(0:Int),(0:Int),ByteArray.empty,(0:Int),ByteArray.empty,Qa ByteArray)).2.2.2.2.2.2.1,(a.2.getD (v43.2.2.2.toNat) ((0:Int),ByteArray.empty,ByteArray.empty,ByteArray.empty,ByteArray.empty,ByteArray.empty,(0:Int),(0:Int),ByteArray.empty,(0:Int),ByteArray.empty,Qa ByteArray)).2.2.2.2.2.2.2.1,(a.2.getD (v43.2.2.2.toNat) ((0:Int),ByteArray.empty,ByteArray.empty,ByteArray.empty,ByteArray.empty,ByteArray.empty,(0:Int),(0:Int),ByteArray.empty,(0:Int),ByteArray.empty,Qa ByteArray)).2.2.2.2.2.2.2.2.1,(a.2.getD (v43.2.2.2.toNat) ((0:Int),ByteArray.empty,ByteArray.empty,ByteArray.empty,ByteArray.empty,ByteArray.empty,(0:Int),(0:Int),ByteArray.empty,(0:Int),ByteArray.empty,Qa ByteArray)).2.2.2.2.2.2.2.2.2.1,(a.2.getD (v43.2.2.2.toNat) ((0:Int),ByteArray.empty,ByteArray.empty,ByteArray.empty,ByteArray.empty,ByteArray.empty,(0:Int),(0:Int),ByteArray.empty,(0:Int),ByteArray.empty,Qa ByteArray)).2.2.2.2.2.2.2.2.2.2.1,(a.2.getD (v43.2.2.2.toNat) ((0:Int),ByteArray.empty,ByteArray.empty,ByteArray.empty,ByteArray.empty,ByteArray.empty,(0:Int),(0:Int),ByteArray.empty,(0:Int),ByteArray.empty,Qa ByteArray)).2.2.2.2.2.2.2.2.2.2.2)).bind fun(v48:Int)=>some (v48)))))).bind fun(v46:Int)=>gd (decide (0≤v43.2.2.2)) (gd (decide (v43.2.2.2<(↑(a.2.length):Int))) (gd (decide (v43.2.2.2.toNat<a.2.length)) (bif !decide (v46=0)then(gd (decide (v43.2.1.length=v43.2.1.length)) (gd (decide (List.length (v43.2.1++(v43.2.2.2,v46)::Qa (Int×Int))*(16:Nat)≤(140737488355328:Nat))) (gd (decide (List.length (v43.2.1++(v43.2.2.2,v46)::Qa (Int×Int))≤9223372036854775807)) (gd (decide (List.length (v43.2.1++(v43.2.2.2,v46)::Qa (Int×Int))=List.length (v43.2.1++(v43.2.2.2,v46)::Qa (Int×Int)))&&true&&(true&&(true&&(true&&(true&&true)))&&(true&&true))) (some ((v43.1,v43.2.1++(v43.2.2.2,v46)::Qa (Int×Int),if v43.2.2.1<(a.2.getD (v43.2.2.2.toNat) ((0:Int),ByteArray.empty,ByteArray.empty,ByteArray.empty,ByteArray.empty,ByteArray.empty,(0:Int),(0:Int),ByteArray.empty,(0:Int),ByteArray.empty,Qa ByteArray)).1 then(a.2.getD (v43.2.2.2.toNat) ((0:Int),ByteArray.empty,ByteArray.empty,ByteArray.empty,ByteArray.empty,ByteArray.empty,(0:Int),(0:Int),ByteArray.empty,(0:Int),ByteArray.empty,Qa ByteArray)).1 else v43.2.2.1)))))))else(gd (decide (0≤v43.2.2.2)) (gd (decide (v43.2.2.2<(↑(a.2.length):Int))) (gd (decide (v43.2.2.2.toNat<a.2.length)) ((c62 F (v43.1,(a.2.getD (v43.2.2.2.toNat) ((0:Int),ByteArray.empty,ByteArray.empty,ByteArray.empty,ByteArray.empty,ByteArray.empty,(0:Int),(0:Int),ByteArray.empty,(0:Int),ByteArray.empty,Qa ByteArray)).1,(a.2.getD (v43.2.2.2.toNat) ((0:Int),ByteArray.empty,ByteArray.empty,ByteArray.empty,ByteArray.empty,ByteArray.empty,(0:Int),(0:Int),ByteArray.empty,(0:Int),ByteArray.empty,Qa ByteArray)).2.1,(a.2.getD (v43.2.2.2.toNat) ((0:Int),ByteArray.empty,ByteArray.empty,ByteArray.empty,ByteArray.empty,ByteArray.empty,(0:Int),(0:Int),ByteArray.empty,(0:Int),ByteArray.empty,Qa ByteArray)).2.2.1,(a.2.getD (v43.2.2.2.toNat) ((0:Int),ByteArray.empty,ByteArray.empty,ByteArray.empty,ByteArray.empty,ByteArray.empty,(0:Int),(0:Int),ByteArray.empty,(0:Int),ByteArray.empty,Qa ByteArray)).2.2.2.1,(a.2.getD (v43.2.2.2.toNat) ((0:Int),ByteArray.empty,ByteArray.empty,ByteArray.empty,ByteArray.empty,ByteArray.empty,(0:Int),(0:Int),ByteArray.empty,(0:Int),ByteArray.empty,Qa ByteArray)).2.2.2.2.1,(a.2.getD (v43.2.2.2.toNat) ((0:Int),ByteArray.empty,ByteArray.empty,ByteArray.empty,ByteArray.empty,ByteArray.empty,(0:Int),(0:Int),ByteArray.empty,(0:Int),ByteArray.empty,Qa ByteArray)).2.2.2.2.2.1,(a.2.getD (v43.2.2.2.toNat) ((0:Int),ByteArray.empty,ByteArray.empty,ByteArray.empty,ByteArray.empty,ByteArray.empty,(0:Int),(0:Int),ByteArray.empty,(0:Int),ByteArray.empty,Qa ByteArray)).2.2.2.2.2.2.1,(a.2.getD (v43.2.2.2.toNat) ((0:Int),ByteArray.empty,ByteArray.empty,ByteArray.empty,ByteArray.empty,ByteArray.empty,(0:Int),(0:Int),ByteArray.empty,(0:Int),ByteArray.empty,Qa ByteArray)).2.2.2.2.2.2.2.1,(a.2.getD (v43.2.2.2.toNat) ((0:Int),ByteArray.empty,ByteArray.empty,ByteArray.empty,ByteArray.empty,ByteArray.empty,(0:Int),(0:Int),ByteArray.empty,(0:Int),ByteArray.empty,Qa ByteArray)).2.2.2.2.2.2.2.2.1,(a.2.getD (v43.2.2.2.toNat) ((0:Int),ByteArray.empty,ByteArray.empty,ByteArray.empty,ByteArray.empty,ByteArray.empty,(0:Int),(0:Int),ByteArray.empty,(0:Int),ByteArray.empty,Qa ByteArray)).2.2.2.2.2.2.2.2.2.1,(a.2.getD (v43.2.2.2.toNat) ((0:Int),ByteArray.empty,ByteArray.empty,ByteArray.empty,ByteArray.empty,ByteArray.empty,(0:Int),(0:Int),ByteArray.empty,(0:Int),ByteArray.empty,Qa ByteArray)).2.2.2.2.2.2.2.2.2.2.1,(a.2.getD (v43.2.2.2.toNat) ((0:Int),ByteArray.empty,ByteArray.empty,ByteArray.empty,ByteArray.empty,ByteArray.empty,(0:Int),(0:Int),ByteArray.empty,(0:Int),ByteArray.empty,Qa ByteArray)).2.2.2.2.2.2.2.2.2.2.2)).bind fun(v47:Qk)=>gd (decide (v43.2.1.length=v43.2.1.length)&&true&&(true&&(true&&(true&&(true&&true)))&&(true&&true))) (some ((v47,v43.2.1,if v43.2.2.1<(a.2.getD (v43.2.2.2.toNat) ((0:Int),ByteArray.empty,ByteArray.empty,ByteArray.empty,ByteArray.empty,ByteArray.empty,(0:Int),(0:Int),ByteArray.empty,(0:Int),ByteArray.empty,Qa ByteArray)).1 then(a.2.getD (v43.2.2.2.toNat) ((0:Int),ByteArray.empty,ByteArray.empty,ByteArray.empty,ByteArray.empty,ByteArray.empty,(0:Int),(0:Int),ByteArray.empty,(0:Int),ByteArray.empty,Qa ByteArray)).1 else v43.2.2.1)))))))))))))).bind fun(v44:(Qk)×List (Int×Int)×Int)=>(gd (decide (v44.2.1.length=v44.2.1.length)&&true&&(true&&(true&&(true&&(true&&true)))&&(true&&(true&&true)))) (some ((v44.1,v44.2.1,v44.2.2,w64 (v43.2.2.2+1))))).bind fun(v45:(Qk)×List (Int×Int)×Int×Int)=>some (Sum.inl v45))else((gd (decide (v43.2.1.length=v43.2.1.length)&&true&&(true&&(true&&(true&&(true&&true)))&&true)) (some ((v43.1,v43.2.1)))).bind fun(v49:(Qk)×List (Int×Int))=>some (Sum.inr v49))) F (((Qa ByteArray,Qa (Qw),Qa (Q2),Qa (Qj),Qa (Q4)),Qa (Int×Int),(0:Int),(0:Int)))).bind fun(v42:(Qk)×List (Int×Int))=>gd (true&&(true&&(true&&(true&&true)))&&decide ((0:Nat)+v42.2.length≤v42.2.length)) (some ((v42.1,List.take (v42.2.length) (List.drop (0:Nat) v42.2))))
noncomputable def Zpa(F:Nat):PC:={ats:=Qwd,rts:=[.agg Zg,.val (.seq kt5)],code:=c32 F}
theorem Zxe(F:Nat):Qg cx 32 (Zpa F):=qE (Yf8 F) (Q8 4 (.two (.two .leaf (.one (.virt 7 201 kt5 (.loop ⟨[.one 2 44 Zg,.vec 3 201 kt5,.slot 8 (.val (.int .i64)),.slot 9 (.val (.int .i64))],[(7,.own 3)]⟩ [(.exit 0,⟨[.one 2 44 Zg,.vec 3 201 kt5],[(7,.own 3)]⟩)] ⟨(10::kU 32 7 (8::kU 47 6 (kU 41 6 (7::40::39::kD 31 14 (9::kD 17 6 []))))),[2,3],[3]⟩ F (.two .leaf (.two (.join [(.normal,⟨[.one 2 44 Zg,.vec 3 201 kt5,.slot 8 (.val (.int .i64))],[(7,.own 3)]⟩)] ⟨(kU 18 14 (39::40::7::kD 46 6 (kD 52 6 (8::kD 38 7 (10::[]))))),[2,3],[3]⟩ (.one (.two .leaf (.two (.two .leaf (.join [(.normal,⟨[.slot 10 (.val (.int .i64))],[]⟩)] ⟨(kU 25 7 (10::[])),[],[]⟩ .leaf)) .leaf)))) .leaf)))))) .leaf)) f32 (by kernel_rfl) fun a=>by kernel_rfl
structure GrS (n:Nat) (s:Qo):Prop where
 c:s.1.length≤n
 a:s.2.1.length≤n
 l:s.2.2.1.length≤n
 e:s.2.2.2.1.length≤n
 t:s.2.2.2.2.length≤n
 cn:∀x∈s.1,x.size≤60
 an:∀x∈s.2.1,x.1.size≤60∧x.2.2.2.size≤60
 tn:∀x∈s.2.2.2.2,x.2.2.length≤10
theorem GrS.sm{n:Nat}{s:Qo}(h:GrS n s)(hn:n≤300):Zn s:=
 ⟨Nat.le_trans h.c hn,Nat.le_trans h.a hn,Nat.le_trans h.l hn,Nat.le_trans h.e hn,Nat.le_trans h.t hn,fun x hx=>Nat.le_trans (h.cn x hx) (by decide),fun x hx=>⟨Nat.le_trans (h.an x hx).1 (by decide),Nat.le_trans (h.an x hx).2 (by decide)⟩,fun x hx=>Nat.le_trans (h.tn x hx) (by decide)⟩
theorem GrS.mono{n k:Nat}{s:Qo}(h:GrS n s)(hn:n≤k):GrS k s:=
 ⟨Nat.le_trans h.c hn,Nat.le_trans h.a hn,Nat.le_trans h.l hn,Nat.le_trans h.e hn,Nat.le_trans h.t hn,h.cn,h.an,h.tn⟩
theorem Zlz:GrS 0 zS:=⟨Nat.le_refl _,Nat.le_refl _,Nat.le_refl _,Nat.le_refl _,Nat.le_refl _,fun _ h=>(by cases h),fun _ h=>(by cases h),fun _ h=>(by cases h)⟩
theorem Qsk{α:Type}{l:List α}{x y:α}(h:y∈l++[x]):y∈l∨y=x:=by
 rcases List.mem_append.1 h with h|h
 ·exact .inl h
 ·exact .inr (List.mem_singleton.1 h)
theorem Zjb{n:Nat}{s:Qo}{a:Ys}(h:GrS n s)(ha:Zt (a.1,a.2.2)):GrS (n+1) (nxA s a):=by
 obtain⟨d,k,r⟩:=a;have hm:=h.mono (Nat.le_succ n);have ha:Zt (d,r):=ha;unfold nxA;split
 ·exact⟨by simp[Qd1];exact h.c,hm.a,hm.l,hm.e,hm.t,fun x hx=>(Qsk hx).elim (h.cn x) (fun e=>by rw[e];exact ha.c),h.an,h.tn⟩
 split
 ·exact⟨hm.c,by simp[Qcw];exact h.a,hm.l,hm.e,hm.t,h.cn,fun x hx=>(Qsk hx).elim (h.an x) (fun e=>by rw[e];exact⟨ha.a,ha.g⟩),h.tn⟩
 split
 ·exact⟨hm.c,hm.a,by simp[Qda];exact h.l,hm.e,hm.t,h.cn,h.an,h.tn⟩
 split
 ·refine⟨hm.c,by simp[Qd7];exact hm.a,hm.l,hm.e,hm.t,h.cn,fun x hx=>?_,h.tn⟩;rcases List.mem_or_eq_of_mem_set hx with hx|rfl
  ·exact h.an x hx
  ·show(Yv s r.1).1.size≤60∧(Yv s r.1).2.2.2.size≤60;unfold Yv;rw[List.getD_eq_getElem?_getD];cases e:s.2.1[(aI s r.1).toNat]? with
   |none=>exact⟨Nat.zero_le _,Nat.zero_le _⟩
   |some y=>exact h.an y (List.mem_of_getElem? e)
 split
 ·exact⟨hm.c,hm.a,hm.l,by simp[Qen];exact h.e,hm.t,h.cn,h.an,h.tn⟩
 split
 ·exact⟨hm.c,hm.a,hm.l,by simp only[Qdf,List.length_append,List.length_take,List.length_drop];have:=h.e;omega,hm.t,h.cn,h.an,h.tn⟩
 split
 ·exact⟨hm.c,hm.a,hm.l,by simp[Qdb];exact hm.e,hm.t,h.cn,h.an,h.tn⟩
 split
 ·unfold Qdw;split
  ·exact⟨hm.c,hm.a,hm.l,hm.e,by simp;exact h.t,h.cn,h.an,fun x hx=>(Qsk hx).elim (h.tn x) (fun e=>by rw[e];exact ha.n)⟩
  ·refine⟨hm.c,hm.a,hm.l,hm.e,by simp;exact hm.t,h.cn,h.an,fun x hx=>?_⟩;rcases List.mem_or_eq_of_mem_set hx with hx|rfl
   ·exact h.tn x hx
   ·exact ha.n
 ·exact hm
def rpE(m:Mt)(s:Qo)(last:Int)(a:Ys):Int:=if a.1<last then 11 else lgA m s a
theorem Zeq{m:Mt}{s:Qo}{t:Int}{a:Ys}(h:rpE m s t a=0):¬a.1<t∧lgA m s a=0:=by
 unfold rpE at h;split at h
 ·cases h
 ·rename_i g;exact⟨g,h⟩
abbrev Rp:=Qo×List (Int×Int)×Int×Int
def rpS(m:Mt)(x:Rp)(a:Ys):Rp:=
 (if rpE m x.1 x.2.2.1 a=0 then nxA x.1 a else x.1,if rpE m x.1 x.2.2.1 a=0 then x.2.1 else x.2.1++[(x.2.2.2,rpE m x.1 x.2.2.1 a)],if x.2.2.1<a.1 then a.1 else x.2.2.1,x.2.2.2+1)
def rp0:Rp:=(zS,[],0,0)
structure Qtp (l:List Ys):Prop where
 n:l.length≤256
 s:∀a∈l,Zt (a.1,a.2.2)
 e:∀a∈l,Xi a=0
structure RpI (i:Nat) (x:Rp):Prop where
 ix:x.2.2.2=i
 g:GrS i x.1
 o:x.2.1.length≤i
theorem Qt8{m:Mt}{i:Nat}{x:Rp}{a:Ys}(h:RpI i x)(ha:Zt (a.1,a.2.2)):RpI (i+1) (rpS m x a):=by
 refine⟨?_,?_,?_⟩
 ·show x.2.2.2+1=_;rw[h.ix];rfl
 ·unfold rpS;by_cases e:rpE m x.1 x.2.2.1 a=0
  ·simp only[e,if_true];exact Zjb h.g ha
  ·simp only[e,if_false];exact h.g.mono (Nat.le_succ i)
 ·have:=h.o;unfold rpS;by_cases e:rpE m x.1 x.2.2.1 a=0
  ·simp only[e,if_true];omega
  ·simp only[e,if_false,List.length_append,List.length_singleton];omega
theorem Qnk{m:Mt}:∀{l:List Ys} {i:Nat} {x:Rp},RpI i x→(∀a∈l,Zt (a.1,a.2.2))→RpI (i+l.length) (l.foldl (rpS m) x)
 |[],i,x,h,_=>h
 |a::l,i,x,h,ha=>by have:=Qnk (m:=m) (l:=l) (Qt8 (m:=m) h (ha a (List.mem_cons_self ..))) (fun b hb=>ha b (List.mem_cons_of_mem _ hb));rw[show i+(a::l).length=i+1+l.length by simp;omega];exact this
theorem Qja:RpI 0 rp0:=⟨rfl,Zlz,Nat.le_refl _⟩
def dA3:Ys:=((0:Int),ByteArray.empty,ByteArray.empty,ByteArray.empty,ByteArray.empty,ByteArray.empty,(0:Int),(0:Int),ByteArray.empty,(0:Int),ByteArray.empty,Qa ByteArray)
theorem l31{F:Nat}(hF:700≤F){l:List Ys}(hl:l.length≤300)(hs:∀a∈l,Zt (a.1,a.2.2)):c31 F l=some (if 256<l.length then 5 else Qp (l.map Xi)):=by
 have hd:((0:Int),ByteArray.empty,ByteArray.empty,ByteArray.empty,ByteArray.empty,ByteArray.empty,(0:Int),(0:Int),ByteArray.empty,(0:Int),ByteArray.empty,Qa ByteArray)=dA3:=rfl;unfold c31;by_cases h:256<l.length
 ·have h':(256:Int)<l.length:=by omega
  simp only[h,h',decide_true,cond_true,if_true]
 ·have h':¬(256:Int)<l.length:=by omega
  simp only[h,h',decide_false,cond_false,if_false,hd];refine Qdm l Xi (by omega) ?_ ?_ ?_
  ·intro i x hi hx;simp(disch:=omega)only[Z7,Zc,Int.toNat_natCast,getD_some hx,Z0,Zh,l24 (show 400≤F by omega) (hs x (List.mem_of_getElem? hx)),Option.bind_some];by_cases e:Xi x=0<;>simp[e]
  ·simp(disch:=omega)only[Z8]
  ·by_cases h2:Qp (l.map Xi)=0<;>simp[h2]
theorem Zwr{F:Nat}(hF:700≤F){l:List Ys}(hl:l.length≤300)(hs:∀a∈l,Zt (a.1,a.2.2)):Qlh F l=some (if 256<l.length then 5 else Qp (l.map Xi)):=by
 have hd:((0:Int),ByteArray.empty,ByteArray.empty,ByteArray.empty,ByteArray.empty,ByteArray.empty,(0:Int),(0:Int),ByteArray.empty,(0:Int),ByteArray.empty,Qa ByteArray)=dA3:=rfl;have e190:Qoq F l=some (Qp (l.map Xi)):=by
  unfold Qoq;simp only[hd];refine Qdm l Xi (by omega) ?_ ?_ ?_
  ·intro i x hi hx;have e191:∀j,Qlz F (j,x)=some (Xi x):=fun j=>by unfold Qlz;simp only[Zh,l23 (show 400≤F by omega) (hs x (List.mem_of_getElem? hx)),Option.bind_some]
   simp(disch:=omega)only[Z7,Zc,Int.toNat_natCast,getD_some hx,Z0,Zh,e191,Option.bind_some];by_cases e:Xi x=0<;>simp[e]
  ·simp(disch:=omega)only[Z8]
  ·by_cases h2:Qp (l.map Xi)=0<;>simp[h2]
 unfold Qlh;simp only[l86,e190,Option.bind_some,l84 (F:=F) (l:=_::_::Qa Int) (by simp[Qa];omega) (by simp[Qa])];by_cases h:256<l.length
 ·have h':(256:Int)<l.length:=by omega
  simp[h,h',Qp,Qa]
 ·have h':¬(256:Int)<l.length:=by omega
  by_cases h2:Qp (l.map Xi)=0<;>simp[h,h',h2,Qp,Qa]
theorem l32{F:Nat}(hF:700≤F){m:Mt}(hm:m.2.2.2.2.length≤300)(hv:Ye m=0){l:List Ys}(ho:Qtp l):c32 F (m,l)=some ((l.foldl (rpS m) rp0).1,(l.foldl (rpS m) rp0).2.1):=by
 have hd:((0:Int),ByteArray.empty,ByteArray.empty,ByteArray.empty,ByteArray.empty,ByteArray.empty,(0:Int),(0:Int),ByteArray.empty,(0:Int),ByteArray.empty,Qa ByteArray)=dA3:=rfl;have hn:=ho.n;have e1:∀y:Int×Int,y::Qa (Int×Int)=[y]:=fun _=>rfl;have hfin:=Qnk (m:=m) Qja ho.s;unfold c32;simp only[hd];refine Xr l (fun(x:Rp) i=>(x.1,x.2.1,x.2.2.1,(i:Int))) (fun a x=>.inl (rpS m x a)) (fun x=>(x.1,x.2.1)) (fun i x=>RpI i x) rp0 (by omega) rfl Qja ?_ ?_ ?_
 ·intro i a x hi ha hI;have hmem:=List.mem_of_getElem? ha;have st:=Qwz hF hm (hI.g.sm (by omega)) hv (ho.s a hmem) (ho.e a hmem);refine⟨?_,fun s' hs=>?_⟩
  ·have hix:=hI.ix;have hol:=hI.o;simp(disch:=omega)only[Z7,Zc,Int.toNat_natCast,getD_some ha,Z0,Zh,e1];have hE:(bif decide (a.1<x.2.2.1)then some 11 else(c60 F (m,x.1,a)).bind fun v=>some v)=some (rpE m x.1 x.2.2.1 a):=by unfold rpE;by_cases g:a.1<x.2.2.1<;>simp[g,st.p60]
   have h1:(x.2.1++[((i:Int),rpE m x.1 x.2.2.1 a)]).length*16≤140737488355328:=by simp only[List.length_append,List.length_singleton];omega
   have h2:(x.2.1++[((i:Int),rpE m x.1 x.2.2.1 a)]).length≤9223372036854775807:=by simp only[List.length_append,List.length_singleton];omega
   simp only[hE,Option.bind_some];by_cases e:rpE m x.1 x.2.2.1 a=0
   ·have e2:=st.p62 (Zeq e).2;simp[e,e2,rpS,Za,hix]
   ·simp only[e,decide_false,Bool.not_false,cond_true,Zc h1,Zc h2,decide_true,Bool.and_self,Bool.and_true,Za,Option.bind_some];simp[e,rpS,hix]
  ·simp only[Sum.inl.injEq]at hs;subst hs;exact Qt8 hI (ho.s a hmem)
 ·intro x hI;simp(disch:=omega)only[Z8,decide_true,Bool.and_self,Bool.and_true,Za,Option.bind_some]
 ·rw[Qg3];simp[Za]
theorem l29{F:Nat}(hF:700≤F){m:Mt}(hm:m.2.2.2.2.length≤300)(hb:∀x∈m.2.2.2.2,x.1.size≤300∧x.2.2.1.size≤300){l:List Ys}(hl:l.length≤300)(hs:∀a∈l,Zt (a.1,a.2.2)):
  c29 F (m,l)=some (if Qp [Ye m,if 256<l.length then 5 else Qp (l.map Xi)]=0 then((l.foldl (rpS m) rp0).1,(l.foldl (rpS m) rp0).2.1,0)else(zS,[],Qp [Ye m,if 256<l.length then 5 else Qp (l.map Xi)])):=by
 have hd:((0:Int),ByteArray.empty,ByteArray.empty,ByteArray.empty,ByteArray.empty,ByteArray.empty,(0:Int),(0:Int),ByteArray.empty,(0:Int),ByteArray.empty,Qa ByteArray)=dA3:=rfl;have e1:∀y:Int×Int,y::Qa (Int×Int)=[y]:=fun _=>rfl;unfold c29;simp only[Zh,hd,l21 (show 400≤F by omega) hm hb,Zwr hF hl hs,Option.bind_some,l84 (F:=F) (l:=_::_::Qa Int) (by simp[Qa];omega) (by simp[Qa])];generalize hE:Qp (Ye m::(if 256<l.length then 5 else Qp (l.map Xi))::Qa Int)=E;have hE':Qp [Ye m,if 256<l.length then 5 else Qp (l.map Xi)]=E:=hE;rw[hE'];by_cases h0:E=0
 ·subst h0;have hv:Ye m=0:=Qaa hE' _ (List.mem_cons_self ..);have hz:=Qaa hE' _ (List.mem_cons_of_mem _ (List.mem_cons_self ..));have hn:l.length≤256:=by
   by_cases h:256<l.length
   ·rw[if_pos h]at hz;exact absurd hz (by decide)
   ·omega
  rw[if_neg (by omega)]at hz;have ho:Qtp l:=⟨hn,hs,fun a ha=>Qaa hz _ (List.mem_map.2 ⟨a,ha,rfl⟩)⟩;have hfin:=Qnk (m:=m) Qja ho.s;simp only[decide_true,Bool.not_true,cond_false,if_true];refine Xr l (fun(x:Rp) i=>(x.1,(),x.2.1,x.2.2.1,(i:Int))) (fun a x=>.inl (rpS m x a)) (fun x=>(x.1,(),x.2.1)) (fun i x=>RpI i x) rp0 (by omega) rfl Qja ?_ ?_ ?_
  ·intro i a x hi ha hI;have hmem:=List.mem_of_getElem? ha;have st:=Qwz hF hm (hI.g.sm (by omega)) hv (ho.s a hmem) (ho.e a hmem);refine⟨?_,fun s' hs=>?_⟩
   ·have hix:=hI.ix;have hol:=hI.o;simp(disch:=omega)only[Z7,Zc,Int.toNat_natCast,getD_some ha,Z0,Zh,e1,l86,Option.bind_some];have hE:(bif decide ((if decide (a.1<x.2.2.1)=true then(11:Int)else 0)=0)then(Jc F (m,x.1,a)).bind fun v=>some v else some (if decide (a.1<x.2.2.1)=true then(11:Int)else 0))=some (rpE m x.1 x.2.2.1 a):=by unfold rpE;by_cases g:a.1<x.2.2.1<;>simp[g,st.p135]
    have h1:(x.2.1++[((i:Int),rpE m x.1 x.2.2.1 a)]).length*16≤140737488355328:=by simp only[List.length_append,List.length_singleton];omega
    have h2:(x.2.1++[((i:Int),rpE m x.1 x.2.2.1 a)]).length≤9223372036854775807:=by simp only[List.length_append,List.length_singleton];omega
    simp only[hE,Option.bind_some];by_cases e:rpE m x.1 x.2.2.1 a=0
    ·have em:=st.mv (Zeq e).2;unfold mvK at em;simp only[e,decide_true,cond_true,Bool.not_true,cond_false,em,Option.bind_some,Bool.and_self,Bool.and_true,Za];simp[e,rpS,hix]
    ·simp only[e,decide_false,Bool.not_false,cond_true,cond_false,Zc h1,Zc h2,decide_true,Bool.and_self,Bool.and_true,Za,Option.bind_some];simp[e,rpS,hix]
   ·simp only[Sum.inl.injEq]at hs;subst hs;exact Qt8 hI (ho.s a hmem)
  ·intro x hI;simp(disch:=omega)only[Z8,decide_true,Bool.and_self,Bool.and_true,Za,Option.bind_some]
  ·rw[Qg3];simp[Za]
 ·simp only[h0,decide_false,Bool.not_false,cond_true,if_false];rfl
theorem Qq7(b:ByteArray):(b==b)=true:=by
 cases b with
 |mk d=>show(d==d)=true;simp
theorem l74{F:Nat}{l:List Zr}(hF:l.length<F)(hl:l.length≤100000):c74 F (l,l)=some true:=by
 unfold c74;simp only[tE,decide_true,Bool.not_true,cond_false];refine Xr l (fun(_:Unit) i=>(i:Int)) (fun _ _=>(.inl ():Unit ⊕ (Bool ⊕ Unit))) (fun _=>.inr ()) (fun _ _=>True) () hF rfl trivial ?_ ?_ ?_
 ·intro i x _ hi hx _;refine⟨?_,fun _ _=>trivial⟩;simp(disch:=omega)only[Z7,Zc,Int.toNat_natCast,getD_some hx,Z0,Qq7,decide_true,beq_self_eq_true,Bool.and_self,Bool.not_true,cond_false];rfl
 ·intro _ _;simp(disch:=omega)only[Z8]
 ·rw[Qf9];rfl
theorem l76{F:Nat}(hF4:400≤F){l:List Tm}(hF:l.length<F)(hl:l.length≤100000)(hr:∀x∈l,x.2.2.length≤300):c76 F (l,l)=some true:=by
 have hd:(ByteArray.empty,ByteArray.empty,Qa ByteArray)=dT:=rfl;unfold c76;simp only[hd,decide_true,Bool.not_true,cond_false];refine Xr l (fun(_:Unit) i=>(i:Int)) (fun _ _=>(.inl ():Unit ⊕ (Bool ⊕ Unit))) (fun _=>.inr ()) (fun _ _=>True) () hF rfl trivial ?_ ?_ ?_
 ·intro i x _ hi hx _;refine⟨?_,fun _ _=>trivial⟩;have hn:=hr x (List.mem_of_getElem? hx);simp(disch:=omega)only[Z7,Zc,Int.toNat_natCast,getD_some hx,Z0,Qf5,l44 (F:=F) (l:=x.2.2) (by omega) (by omega),Option.bind_some,Bool.not_true,cond_false];rfl
 ·intro _ _;simp(disch:=omega)only[Z8]
 ·rw[Qf9];rfl
end Go.Proofs.Tryz
section
namespace Go.Proofs.Tryz
open Go Go.Sx
end Go.Proofs.Tryz
end
namespace Go.Proofs.Tryz
open Go Go.Sx
theorem l33{F:Nat}(hF:400≤F){s:Qo}(h:Qjn s)(hr:∀t∈s.2.2.2.2,t.2.2.length≤300):c33 F (s,s)=some true:=by
 obtain⟨h1,h2,h3,h4,h5⟩:=h;have hd:Zx=dA:=rfl;have hd2:(ByteArray.empty,(0:Int),(0:Int))=dL:=rfl;unfold c33;simp only[Zh,hd,hd2,l44 (F:=F) (l:=s.1) (by omega) (by omega),l74 (F:=F) (l:=s.2.2.2.1) (by omega) (by omega),l76 hF (l:=s.2.2.2.2) (by omega) (by omega) hr,decide_true,Bool.not_true,cond_false,Option.bind_some];refine Xr s.2.1 (fun(_:Unit) i=>(i:Int)) (fun _ _=>(.inl ():Unit ⊕ (Bool ⊕ Unit))) (fun _=>.inr ()) (fun _ _=>True) () (by omega) rfl trivial ?_ ?_ ?_
 ·intro i x _ hi hx _;refine⟨?_,fun _ _=>trivial⟩;simp(disch:=omega)only[Z7,Zc,Int.toNat_natCast,getD_some hx,Z0,Qq7,decide_true,Bool.and_self,Bool.not_true,cond_false];rfl
 ·intro _ _;simp(disch:=omega)only[Z8]
 ·rw[Qf9];simp only[Sum.elim_inr];refine Xr s.2.2.1 (fun(_:Unit) i=>(i:Int)) (fun _ _=>(.inl ():Unit ⊕ (Bool ⊕ Unit))) (fun _=>.inr ()) (fun _ _=>True) () (by omega) rfl trivial ?_ ?_ ?_
  ·intro i x _ hi hx _;refine⟨?_,fun _ _=>trivial⟩;simp(disch:=omega)only[Z7,Zc,Int.toNat_natCast,getD_some hx,Z0,Qq7,decide_true,Bool.and_self,Bool.not_true,cond_false];rfl
  ·intro _ _;simp(disch:=omega)only[Z8]
  ·rw[Qf9];rfl
theorem Qzi{F:Nat}(hF:400≤F){s:Qo}(h:Qjn s):c16 F s=some s:=l16 ⟨by have:=h.l;omega,by have:=h.e;omega,by have:=h.t;omega⟩ ⟨by have:=h.l;omega,by have:=h.e;omega,by have:=h.t;omega⟩
theorem Zgj:Qjn zS:=⟨by decide,by decide,by decide,by decide,by decide⟩
end Go.Proofs.Tryz
section

end
namespace Go.Proofs.Tryz
open Go Go.Sx
noncomputable def lx4(F:Nat):LK:=lC (Zsi F) (lC (Zso F) (lC (Yju F) (lC (Ye1 F) (lC (Zo6 F) (lC (Ztg F) (lC (Zpj F) (lC (Zu3 F) (lC (Zns F) (lC (Ydc F) (lC (Zxe F) (lC (Ygk F) (lC (Zwb F) (lC (Zs0 F) (lB [(217,Jv (Qr f217))]))))))))))))))
noncomputable def c4(F:Nat)(a:(Zo)×List (Q6)):Option (Bool):=
 (c15 F a.1).bind fun(v42:Zo)=>(c27 F a.2).bind fun(v43:List (Q6))=>((c17 F v42).bind fun(v56:Bool)=>bif !v56 then(some (true))else((c28 F (v43,(24:Int))).bind fun(v57:Bool)=>some (!v57))).bind fun(v44:Bool)=>bif v44 then(some (true))else((c29 F (a.1,a.2)).bind fun(v45:(Qk)×List (Int×Int)×Int)=>(c22 F v42).bind fun(v46:Int)=>(c31 F v43).bind fun(v47:Int)=>(c30 F (v46::v47::Qa Int)).bind fun(v48:Int)=>(bif decide (v48=0)then((c32 F (v42,v43)).bind fun(v55:(Qk)×List (Int×Int))=>some ((v55.1,v55.2)))else(some (((Qa ByteArray,Qa (Qw),Qa (Q2),Qa (Qj),Qa (Q4)),Qa (Int×Int))))).bind fun(v49:(Qk)×List (Int×Int))=>(bif decide (v45.2.2=v48)then((c16 F v45.1).bind fun(v51:Qk)=>(c33 F (v51,v49.1.1,v49.1.2.1,v49.1.2.2.1,v49.1.2.2.2.1,v49.1.2.2.2.2)).bind fun(v52:Bool)=>bif v52 then((c35 F v45.2.1).bind fun(v53:List (Int×Int))=>(c34 F (v53,v49.2)).bind fun(v54:Bool)=>bif v54 then(some (true))else(some (false)))else(some (false)))else(some (false))).bind fun(v50:Bool)=>some (v50))
noncomputable def pc4(F:Nat):PC:={ats:=Qwd,rts:=Y6,code:=c4 F}
theorem Zp5(F:Nat):Qg cx 4 (pc4 F):=qE (lx4 F) (Q8 2 (.two (.two (.join [(.normal,⟨[.slot 24 (.val (.bool))],[]⟩)] ⟨(kD 24 8 []),[],[]⟩ .leaf) .leaf) (Q8 4 (.two (.two .leaf (.join [(.normal,⟨[.one 4 44 Zg,.slot 12 (.val (.seq kt5))],[]⟩)] ⟨[12,46,45,41,44,43,42],[4],[]⟩ .leaf)) (.two (.join [(.normal,⟨[.slot 4 (.val (.bool))],[]⟩)] ⟨(4::kD 64 18 []),[],[]⟩ .leaf) .leaf))))) f4 (by kernel_rfl) fun a=>by kernel_rfl
end Go.Proofs.Tryz
