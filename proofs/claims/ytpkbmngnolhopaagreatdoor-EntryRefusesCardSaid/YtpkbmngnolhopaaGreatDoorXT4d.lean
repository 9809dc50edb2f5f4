/- Plain: the acts one after another: the state, the acts that are accepted, and the refusals. Plain law: lists of entries and of teams are copied, and are equal to themselves. And further parts. -/
import Derived.Test.YtpkbmngnolhopaaGreatDoorXT4c
import Derived.Test.YtpkbmngnolhopaaGreatDoorXT3f
import Derived.Test.YtpkbmngnolhopaaGreatDoorXT3i
import Derived.Test.YtpkbmngnolhopaaGreatDoorXTeD62
import Derived.Test.YtpkbmngnolhopaaGreatDoorXT3y
import Derived.Test.YtpkbmngnolhopaaGreatDoorXTeR
import Derived.Test.YtpkbmngnolhopaaGreatDoorXTeR2
import Derived.Test.YtpkbmngnolhopaaGreatDoorXTeSor
set_option maxRecDepth 100000
set_option linter.unusedVariables false
set_option linter.unusedSimpArgs false
set_option linter.all false
open List renaming foldl_append->j,foldl_cons->C,length_singleton->J,mem_of_getElem?->R,foldl_nil->U,length->ZA,length_append->ZB
open Option renaming bind_some->o
open Nat renaming le_trans->I
namespace Go.Proofs.Tryz
open Go Go.Sx
abbrev Q7:=Qh×List Zw×Int×Int
def q7S(m:Mt)(q:Q7)(a:Zw):Q7:=
 (if rpE m q.1 q.2.2.1 a=0 then nxA q.1 a else q.1,if rpE m q.1 q.2.2.1 a=0 then q.2.1++[a]else q.2.1,if q.2.2.1<a.1 then a.1 else q.2.2.1,if rpE m q.1 q.2.2.1 a=0 then q.2.2.2 else q.2.2.2+1)
structure I7 (m:Mt) (l:List Zw) (i:Nat) (q:Q7):Prop where
 s:q.1=((l.take i).foldl (Zg m) Z2).1
 d:q.2.2.1=((l.take i).foldl (Zg m) Z2).2.2.1
 n:q.2.2.2=(((l.take i).foldl (Zg m) Z2).2.1.length:Int)
 ok:X1 m q.1
 c1:(q.2.1.foldl (Zg m) Z2).1=q.1
 c2:(q.2.1.foldl (Zg m) Z2).2.1=[]
 c3:(q.2.1.foldl (Zg m) Z2).2.2.1<=q.2.2.1
 c4:∀a∈q.2.1,a∈l
 c5:q.2.1.length<=i
theorem Qez{m:Mt}{l:List Zw}{i:Nat}{a:Zw}(ha:l[i]? =some a):(l.take (i+1)).foldl (Zg m) Z2=Zg m ((l.take i).foldl (Zg m) Z2) a:=by rw[<-Qyp ha,j];rfl
theorem Zd6{m:Mt}{l:List Zw}{i:Nat}{q:Q7}{a:Zw}(h:I7 m l i q)(hg:GrS i q.1)(hi:i+1<=256)(ha:l[i]? =some a)(hs:Zy (a.1,a.2.2))(h0:Y0 a=0):I7 m l (i+1) (q7S m q a):=by
 have hE:rpE m q.1 q.2.2.1 a=rpE m ((l.take i).foldl (Zg m) Z2).1 ((l.take i).foldl (Zg m) Z2).2.2.1 a:=by rw[h.s,h.d]
 have hmem:=R ha;by_cases e:rpE m q.1 q.2.2.1 a=0
 ·have e':=hE▸e;obtain⟨g1,g2⟩:=Quc e;have hc:rpE m (q.2.1.foldl (Zg m) Z2).1 (q.2.1.foldl (Zg m) Z2).2.2.1 a=0:=by unfold rpE;have:=h.c3;rw[if_neg (by omega),h.c1];exact g2
  refine⟨?_,?_,?_,?_,?_,?_,?_,?_,?_⟩
  ·rw[Qez ha];show(if rpE m q.1 q.2.2.1 a=0 then nxA q.1 a else q.1)=(if rpE m ((l.take i).foldl (Zg m) Z2).1 ((l.take i).foldl (Zg m) Z2).2.2.1 a=0 then nxA ((l.take i).foldl (Zg m) Z2).1 a else((l.take i).foldl (Zg m) Z2).1);rw[<-h.s,<-h.d]
  ·rw[Qez ha];simp only[q7S,Zg,h.d]
  ·rw[Qez ha];simp only[q7S,Zg,e,e',if_true,h.n]
  ·simp only[q7S,e,if_true];exact Zbf h.ok hg hi hs h0 g2
  ·simp only[q7S,e,if_true,j,C,U];show(if rpE m (q.2.1.foldl (Zg m) Z2).1 (q.2.1.foldl (Zg m) Z2).2.2.1 a=0 then nxA (q.2.1.foldl (Zg m) Z2).1 a else(q.2.1.foldl (Zg m) Z2).1)=nxA q.1 a;rw[if_pos hc,h.c1]
  ·simp only[q7S,e,if_true,j,C,U];simp only[Zg,hc,if_true,h.c2]
  ·simp only[q7S,e,if_true,j,C,U];simp only[Zg];have:=h.c3;split<;>split<;>omega
  ·simp only[q7S,e,if_true];exact Qhj h.c4 hmem
  ·simp only[q7S,e,if_true,ZB,J];have:=h.c5;omega
 ·have e':¬rpE m ((l.take i).foldl (Zg m) Z2).1 ((l.take i).foldl (Zg m) Z2).2.2.1 a=0:=hE▸e;refine⟨?_,?_,?_,?_,?_,?_,?_,?_,?_⟩
  ·rw[Qez ha];show(if rpE m q.1 q.2.2.1 a=0 then nxA q.1 a else q.1)=(if rpE m ((l.take i).foldl (Zg m) Z2).1 ((l.take i).foldl (Zg m) Z2).2.2.1 a=0 then nxA ((l.take i).foldl (Zg m) Z2).1 a else((l.take i).foldl (Zg m) Z2).1);rw[<-h.s,<-h.d]
  ·rw[Qez ha];simp only[q7S,Zg,h.d]
  ·rw[Qez ha];simp only[q7S,Zg,e,e',if_false,h.n,ZB,J];rfl
  ·simp only[q7S,e,if_false];exact h.ok
  ·simp only[q7S,e,if_false];exact h.c1
  ·simp only[q7S,e,if_false];exact h.c2
  ·simp only[q7S,e,if_false];have:=h.c3;split<;>omega
  ·simp only[q7S,e,if_false];exact h.c4
  ·simp only[q7S,e,if_false];exact Nat.le_succ_of_le h.c5
theorem Zcv{m:Mt}(hv:Z9 m=0){l:List Zw}(ho:Qx8 l):∀k,k<=l.length->I7 m l k ((l.take k).foldl (q7S m) (zS,[],0,0))
 |0,_=>⟨rfl,rfl,rfl,Qyu hv,rfl,rfl,Int.le_refl _,fun _ h=>(by cases h),Nat.le_refl _⟩
 |k+1,hk=>by
  have hI:=Zcv hv ho k (by omega);have ha:l[k]? =some (l[k]'(by omega)):=List.getElem?_eq_getElem (by omega);have hmem:=R ha;have hgi:GrS k ((l.take k).foldl (q7S m) (zS,[],0,0)).1:=by have:=(Qdx (m:=m) (l:=l.take k) Qbx (fun a ha=>ho.s a (List.mem_of_mem_take ha))).g;rw[Nat.zero_add,List.length_take,Nat.min_eq_left (by omega)]at this;rw[hI.s];exact this
  have hn:=ho.n;have:=Zd6 hI hgi (by omega) ha (ho.s _ hmem) (ho.e _ hmem);rw[<-Qyp ha,j];exact this
theorem Zga{m:Mt}:∀(l:List Zw) (x:Rp),∃t,(l.foldl (Zg m) x).2.1=x.2.1++t∧∀y∈t,x.2.2.2<=y.1
 |[],x=>⟨[],(List.append_nil _).symm,fun _ h=>(by cases h)⟩
 |a::l,x=>by
  obtain⟨t,h,h2⟩:=Zga l (Zg m x a);rw[C,h];have h3:(Zg m x a).2.2.2=x.2.2.2+1:=rfl;rw[h3]at h2;by_cases e:rpE m x.1 x.2.2.1 a=0
  ·refine⟨t,?_,fun y hy=>by have:=h2 y hy;omega⟩;unfold Zg;simp only[e,if_true]
  ·refine⟨(x.2.2.2,rpE m x.1 x.2.2.1 a)::t,?_,fun y hy=>?_⟩
   ·unfold Zg;simp only[e,if_false,List.append_assoc];rfl
   ·rcases List.mem_cons.1 hy with rfl|hy
    ·exact Int.le_refl _
    ·have:=h2 y hy;omega
end Go.Proofs.Tryz
section
namespace Go.Proofs.Tryz
open Go Go.Sx
end Go.Proofs.Tryz
end
section
namespace Go.Proofs.Tryz
open Go Go.Sx
end Go.Proofs.Tryz
end
namespace Go.Proofs.Tryz
open Go Go.Sx
theorem Yl1{F:Nat}(hF:400<=F){s:Qh}(h:Qxj s):c16 F s=some s:=l16 ⟨by have:=h.l;omega,by have:=h.e;omega,by have:=h.t;omega⟩ ⟨by have:=h.l;omega,by have:=h.e;omega,by have:=h.t;omega⟩
end Go.Proofs.Tryz
section

end
namespace Go.Proofs.Tryz
open Go Go.Sx
noncomputable def c4(F:Nat)(a:(Zr)×List (Q4)):Option (Bool):=
 (c15 F a.1).bind fun(v42:Zr)=>(c27 F a.2).bind fun(v43:List (Q4))=>((c17 F v42).bind fun(v56:Bool)=>bif !v56 then(some (true))else((c28 F (v43,(24:Int))).bind fun(v57:Bool)=>some (!v57))).bind fun(v44:Bool)=>bif v44 then(some (true))else((c29 F (a.1,a.2)).bind fun(v45:(Qm)×List (Int×Int)×Int)=>(c22 F v42).bind fun(v46:Int)=>(c31 F v43).bind fun(v47:Int)=>(c30 F (v46::v47::Qa Int)).bind fun(v48:Int)=>(bif decide (v48=0)then((c32 F (v42,v43)).bind fun(v55:(Qm)×List (Int×Int))=>some ((v55.1,v55.2)))else(some (((Qa ByteArray,Qa (Q3),Qa (Zc),Qa (Ql),Qa (Zd)),Qa (Int×Int))))).bind fun(v49:(Qm)×List (Int×Int))=>(bif decide (v45.2.2=v48)then((c16 F v45.1).bind fun(v51:Qm)=>(c33 F (v51,v49.1.1,v49.1.2.1,v49.1.2.2.1,v49.1.2.2.2.1,v49.1.2.2.2.2)).bind fun(v52:Bool)=>bif v52 then((c35 F v45.2.1).bind fun(v53:List (Int×Int))=>(c34 F (v53,v49.2)).bind fun(v54:Bool)=>bif v54 then(some (true))else(some (false)))else(some (false)))else(some (false))).bind fun(v50:Bool)=>some (v50))
abbrev atL:Qe:=.val (.seq [.int .i64,.str,.str,.str,.str,.str,.int .i64,.int .i64,.str,.int .i64,.str,.seq Z3])
theorem okL{l:List Zw}(h:Qe.ok atL l):l.length*168<=140737488351232∧∀a∈l,a.2.2.2.2.2.2.2.2.2.2.2.length*16<=140737488351232:=by obtain⟨h1,h2⟩:=h;refine⟨h1,fun a ha=>?_⟩;exact(h2 a ha).2.2.2.2.2.2.2.2.2.2.2.1
theorem l27{F:Nat}{l:List Zw}(hF:l.length<F)(hb:l.length*168<=140737488355328):c27 F l=some l:=by
 have e:∀y:Zw,y::Qa Zw=[y]:=fun _=>rfl;have hd:YA=dA3:=rfl;unfold c27;simp only[hd];refine Jy l (fun out i=>(out,(i:Int))) (fun x out=>.inl (out++[x])) (fun out=>out) (fun i out=>out.length=i) (Qa Zw) hF rfl rfl ?_ ?_ ?_
 ·intro i x out hi hx ho;have hl2:(out++[x]).length=i+1:=by simp[ho]
  refine⟨?_,fun s' hs=>?_⟩
  ·simp(disch:=omega)only[Z1,Ze,Int.toNat_natCast,getD_some hx,Zu,Za,e,hl2,ho,decide_true,Bool.and_self,Bool.true_and,Zb,o];rfl
  ·simp only[Sum.inl.injEq]at hs;subst hs;exact hl2
 ·intro out ho;simp(disch:=omega)only[Zz,ho,decide_true,Bool.and_self,Bool.true_and,Zb,o]
 ·rw[Qib (fun x:Zw=>x)];simp[Qa,Zb]
structure ShL (n:Nat) (l:List Zw):Prop where
 n:l.length<=n∨(256<l.length∧l.length<=259)
 s:∀a∈l,Zy (a.1,a.2.2)
theorem l28{F:Nat}(hF:400<=F){l:List Zw}(hl:l.length<F)(hb:l.length*168<=140737488355328){n:Nat}(hn:n<=256):∃b,c28 F (l,(n:Int))=some b∧(b=true->ShL n l):=by
 have hd:YA=dA3:=rfl;unfold c28;simp only[hd];rw[l78 F _ _ _ (by omega)];by_cases h0:(l.length:Int)<=(n:Int)∨(256:Int)<l.length∧(l.length:Int)<=256+3
 ·simp only[h0,decide_true,Bool.not_true,cond_false,o];refine Qv2 l (fun a=>Zy (a.1,a.2.2)) (fun b:Bool ⊕ Unit=>b=.inl false∨(b=.inr ()∧∀x∈l,Zy (x.1,x.2.2))) hl ?_ ?_ ?_
  ·intro i x hi hx;obtain⟨b,h1,h2⟩:=l19 hF x;simp(disch:=omega)only[Z1,Ze,Int.toNat_natCast,getD_some hx,Zu,Za,h1,o];cases b with
   |true=>exact⟨_,rfl,.inl ⟨rfl,h2 rfl⟩⟩
   |false=>exact⟨_,rfl,.inr ⟨_,rfl,.inl rfl⟩⟩
  ·intro h;exact⟨_,by simp(disch:=omega)only[Zz],.inr ⟨rfl,h⟩⟩
  ·rintro b (rfl|⟨rfl,h⟩)
   ·exact⟨false,rfl,fun h=>by cases h⟩
   ·exact⟨true,rfl,fun _=>⟨by omega,h⟩⟩
 ·simp only[h0,decide_false,Bool.not_false,cond_true,o];exact⟨false,rfl,fun h=>by cases h⟩
theorem ShL.len{n:Nat}{l:List Zw}(h:ShL n l)(hn:n<=256):l.length<=300:=by rcases h.n with h|h<;>omega
theorem Zyt{n:Nat}{s:Qh}(h:GrS n s)(hn:n<=256):Qxj s:=
 ⟨I h.c hn,I h.a hn,I h.l hn,I h.e hn,I h.t hn⟩
def Qdp(m:Mt)(l:List Zw):Nat:=m.2.2.2.2.length+l.length+100000
end Go.Proofs.Tryz
section

end
namespace Go.Proofs.Tryz
open Go Go.Sx
noncomputable def Yjq(F:Nat):LK:=lC (Yap F) (lC (Ypt F) (lC (Zha F) (lC (Yru F) (lC (Qfc F) (lC (Yfg F) (lC (Zm2 F) (lC (Zzt F) (lC (Yrf F) (lC (Kz F) (lC (Zxd F) (lC (Zbd F) (lC (Zxj F) (lC (Zyq F) (lB [(217,Wg (Qs f217))]))))))))))))))
noncomputable def c10(F:Nat)(a:(Zr)×List (Q4)×ByteArray):Option (Bool):=
 (c15 F a.1).bind fun(v79:Zr)=>(c27 F a.2.1).bind fun(v80:List (Q4))=>((c17 F v79).bind fun(v107:Bool)=>bif !v107 then(some (true))else((c28 F (v80,(24:Int))).bind fun(v108:Bool)=>bif !v108 then(some (true))else((c22 F v79).bind fun(v109:Int)=>bif !decide (v109=0)then(some (true))else((c31 F v80).bind fun(v110:Int)=>bif !decide (v110=0)then(some (true))else(bif decide (24<(↑(a.2.1.length):Int))then(some (true))else((c47 F (v79,a.2.2)).bind fun(v111:Int)=>bif decide (v111<0)then(some (true))else((c47 F (v79,a.2.2)).bind fun(v112:Int)=>gd (decide (0<=v112)) (gd (decide (v112<(↑(v79.2.2.2.2.length):Int))) (gd (decide (v112.toNat<v79.2.2.2.2.length)) (some (decide (0<(v79.2.2.2.2.getD (v112.toNat) Zf).2.2.2.2.2.2.2.2.2.2)))))))))))).bind fun(v81:Bool)=>bif v81 then(some (true))else((c29 F (a.1,a.2.1)).bind fun(v82:(Qm)×List (Int×Int)×Int)=>bif !decide (v82.2.2=0)then(some (false))else((Qx (O:=List (Q4)×Int×Int) (β:=List (Q4)×Int) (fun(v102:List (Q4)×Int×Int)=>bif decide (v102.2.2<(↑(a.2.1.length):Int))then((gd (decide (0<=v102.2.2)) (gd (decide (v102.2.2<(↑(a.2.1.length):Int))) (gd (decide (v102.2.2.toNat<a.2.1.length)) ((bif decide (v102.2.1<(↑(v82.2.1.length):Int))then(gd (decide (0<=v102.2.1)) (gd (decide (v102.2.1<(↑(v82.2.1.length):Int))) (gd (decide (v102.2.1.toNat<v82.2.1.length)) (some (decide ((v82.2.1.getD (v102.2.1.toNat) ((0:Int),(0:Int))).1=v102.2.2))))))else(some (false))).bind fun(v105:Bool)=>bif v105 then(gd (decide (v102.1.length=v102.1.length)&&true&&(true&&true)) (some ((v102.1,w64 (v102.2.1+1)))))else(gd (decide (v102.1.length=v102.1.length)) (gd (decide (ZA (v102.1++(a.2.1.getD (v102.2.2.toNat) YA)::Qa (Q4))*(168:Nat)<=(140737488355328:Nat))) (gd (decide (ZA (v102.1++(a.2.1.getD (v102.2.2.toNat) YA)::Qa (Q4))<=9223372036854775807)) (gd (decide (ZA (v102.1++(a.2.1.getD (v102.2.2.toNat) YA)::Qa (Q4))=ZA (v102.1++(a.2.1.getD (v102.2.2.toNat) YA)::Qa (Q4)))&&true&&(true&&true)) (some ((v102.1++(a.2.1.getD (v102.2.2.toNat) YA)::Qa (Q4),v102.2.1))))))))))).bind fun(v103:List (Q4)×Int)=>(gd (decide (v103.1.length=v103.1.length)&&true&&(true&&(true&&true))) (some ((v103.1,v103.2,w64 (v102.2.2+1))))).bind fun(v104:List (Q4)×Int×Int)=>some (Sum.inl v104))else((gd (decide (v102.1.length=v102.1.length)&&true&&(true&&true)) (some ((v102.1,v102.2.1)))).bind fun(v106:List (Q4)×Int)=>some (Sum.inr v106))) F ((Qa (Q4),(0:Int),(0:Int)))).bind fun(v83:List (Q4)×Int)=>gd (true&&(decide (v83.1.length=v83.1.length)&&true&&true&&true)) ((c46 F (a.1,a.2.1,v83.1,a.2.2)).bind fun(v84:List ByteArray×Int)=>(c46 F (a.1,v83.1,a.2.1,a.2.2)).bind fun(v85:List ByteArray×Int)=>(c46 F (a.1,a.2.1,a.2.1,a.2.2)).bind fun(v86:List ByteArray×Int)=>(c46 F (a.1,Qa (Q4),a.2.1,a.2.2)).bind fun(v87:List ByteArray×Int)=>(bif !decide (v83.2=(↑(v82.2.1.length):Int))then(some (true))else(bif !decide (v84.2=0)then(some (true))else(bif !decide (v85.2=0)then(some (true))else(bif !decide (v86.2=0)then(some (true))else(bif !decide (v87.2=0)then(some (true))else(some (!decide (w64 (w64 ((↑(v84.1.length):Int)+(↑(v85.1.length):Int))+(↑(v86.1.length):Int))=0)))))))).bind fun(v88:Bool)=>bif v88 then(some (false))else((c29 F (a.1,v83.1)).bind fun(v89:(Qm)×List (Int×Int)×Int)=>(bif !decide (v89.2.2=0)then(some (true))else((c16 F v89.1).bind fun(v100:Qm)=>(c26 F (v79,v100.1,v100.2.1,v100.2.2.1,v100.2.2.2.1,v100.2.2.2.2)).bind fun(v101:Int)=>some (!decide (v101=0)))).bind fun(v90:Bool)=>bif v90 then(some (false))else((c55 F (a.1,v89.1,a.2.2)).bind fun(v91:List (Ql)×Int)=>(bif !decide (v91.2=0)then(some (true))else(some (!decide ((↑(v87.1.length):Int)=(↑(v91.1.length):Int))))).bind fun(v92:Bool)=>bif v92 then(some (false))else((Qx (O:=Int) (β:=Bool ⊕ Unit) (fun(v96:Int)=>bif decide (v96<(↑(v87.1.length):Int))then(gd (decide (0<=v96)) (gd (decide (v96<(↑(v87.1.length):Int))) (gd (decide (v96.toNat<v87.1.length)) (((c16 F v89.1).bind fun(v98:Qm)=>(c53 F (v98,v87.1.getD (v96.toNat) ByteArray.empty,a.2.2)).bind fun(v99:Int)=>bif decide (v99<0)then(some (true))else(bif decide (0<v96)then(gd (decide (0<=w64 (v96-1))) (gd (decide (w64 (v96-1)<(↑(v87.1.length):Int))) (gd (decide (Int.toNat (w64 (v96-1))<v87.1.length)) (some (!Go.Op.bytesLess (ByteArray.toList (v87.1.getD (Int.toNat (w64 (v96-1))) ByteArray.empty)) (ByteArray.toList (v87.1.getD (v96.toNat) ByteArray.empty)))))))else(some (false)))).bind fun(v97:Bool)=>bif v97 then(some (Sum.inr (Sum.inl false)))else(some (Sum.inl (w64 (v96+1))))))))else(some (Sum.inr (Sum.inr ())))) F ((0:Int))).bind fun(v93:Bool ⊕ Unit)=>Sum.elim (fun(v94:Bool)=>some (v94)) (fun(v95:Unit)=>some (true)) (v93)))))))
noncomputable def Zcl(F:Nat):PC:={ats:=[.agg Xo,.val (.seq Xd),.val (.str)],rts:=Xp,code:=c10 F}
theorem Yif(F:Nat):Qg cx 10 (Zcl F):=qE (Yjq F) (Q8 2 (.two (.two (.join [(.normal,⟨[.slot 74 (.val (.bool))],[]⟩)] ⟨(kD 74 40 []),[],[]⟩ .leaf) .leaf) (Q8 4 (.two (.two .leaf (.one (.virt 12 35 Xd (.loop ⟨[.vec 3 35 Xd,.slot 13 (.val (.int .i64)),.slot 87 (.val (.int .i64))],[(12,.own 3)]⟩ [(.exit 0,⟨[.vec 3 35 Xd,.slot 13 (.val (.int .i64))],[(12,.own 3)]⟩)] ⟨(111::87::kU 92 13 (13::106::105::12::110::109::108::107::14::15::91::90::89::88::[])),[3],[3]⟩ F (Q8 2 (.two (.join [(.normal,⟨[.vec 3 35 Xd,.slot 13 (.val (.int .i64))],[(12,.own 3)]⟩)] ⟨(kU 92 13 (13::106::105::12::110::109::108::107::14::15::91::90::89::[])),[3],[3]⟩ (.one (.two .leaf (.two (.two (.join [(.normal,⟨[.slot 104 (.val (.bool))],[]⟩)] ⟨(kD 104 13 []),[],[]⟩ .leaf) .leaf) .leaf)))) .leaf)))))) (.two (.weak 3 [12] (.sealing 3 35 Xd .leaf)) (Q8 3 (.two (.two (.join [(.normal,⟨[.slot 173 (.val (.bool))],[]⟩)] ⟨(kD 173 31 []),[],[]⟩ .leaf) .leaf) (.two .leaf (.two (.two (.join [(.normal,⟨[.slot 189 (.val (.bool))],[]⟩)] ⟨(kD 189 9 []),[],[]⟩ .leaf) .leaf) (.two .leaf (.two (.two (.join [(.normal,⟨[.slot 205 (.val (.bool))],[]⟩)] ⟨(kD 205 9 []),[],[]⟩ .leaf) .leaf) (.two (.two .leaf (.one (.loop ⟨[.slot 208 (.val (.int .i64))],[]⟩ [(.ret,⟨[.slot 6 (.val (.bool))],[]⟩),(.exit 2,⟨[],[]⟩)] ⟨(232::208::kU 213 19 (6::30::29::212::211::210::209::[])),[],[]⟩ F (Q8 2 (.two (.one (.two .leaf (.two (.join [(.normal,⟨[.slot 231 (.val (.bool))],[]⟩)] ⟨(kD 231 19 []),[],[]⟩ .leaf) .leaf))) .leaf))))) .leaf)))))))))))) f10 (by kernel_rfl) fun a=>by kernel_rfl
end Go.Proofs.Tryz
