/- Plain law: EntryRefuses. -/
import Derived.Test.YtpkbmngnolhopaaGreatDoorXTeSor
import Derived.Test.YtpkbmngnolhopaaGreatDoorXT4d
set_option maxRecDepth 100000
set_option linter.unusedVariables false
set_option linter.unusedSimpArgs false
open Option renaming bind_some->C
open Bool renaming not_true->I,and_self->ZD,and_true->ZE,not_false->ZJ
open List renaming getElem?_eq_getElem->J,mem_of_mem_take->ZA,length_append->ZB,getElem?_append_right->ZC,length_take->ZF,mem_of_getElem?->ZG,mem_map->ZH,take_length->ZI
open Int renaming toNat_natCast->U
namespace Go.Proofs.Tryz
open Go Go.Sx
theorem Yfh{m:Mt}{s:Qh}(h:ByA m s){c k:ByteArray}(hk:k∈Xt s c):0<=eI s k c:=by obtain⟨e,he,rfl⟩:=ZH.1 hk;have he2:=Qz4 e ((Qks _).mem_iff.1 he);have h1:=Qhz (eP e.1 c) s.2.2.2.1;have h2:(s.2.2.2.1.any (eP e.1 c))=true:=List.any_eq_true.2 ⟨e,he2.1,by unfold eP;rw[Wr,he2.2];rfl⟩;rw[h2,decide_eq_true_eq]at h1;exact h1
theorem Qus{m:Mt}{s:Qh}(h:ByA m s)(c:ByteArray):chS m s s c=[]:=by
 have:chA (Xt s c) (Xt s c) (We m s c) (We m s c)=[]:=by rw[List.eq_nil_iff_forall_not_mem];intro k hk;exact(Zrf h h c k).1 hk rfl
 unfold chS;rw[this];exact List.eq_nil_of_length_eq_zero (by rw[Qgx];rfl)
theorem Ylz{m:Mt}{s:Qh}(c:ByteArray):chS m zS s c=Yq (Xt s c):=by have h1:Xt zS c=[]:=rfl;have h2:∀k,whr (We m zS c) k=0:=fun _=>rfl;unfold chS chA;rw[h1];congr 1;rw[List.filter_nil,List.nil_append];exact List.filter_eq_self.2 fun k _=>by rw[h2];rfl
theorem Zzq{F:Nat}(hF:400<=F){m:Mt}(hm:m.2.2.2.2.length<=300)(hb:∀x∈m.2.2.2.2,x.1.size<=300∧x.2.2.1.size<=300){s:Qh}(h:ByA m s){c:ByteArray}(hc:0<=cI m c)(ht:¬ 0<(Vo m c).2.2.2.2.2.2.2.2.2.2):
  c55 F (m,s,c)=some (X3 s c,0):=by
 have hv:Qnr m s c false=0:=by unfold Qnr;rw[h.st,if_neg (show¬cI m c<0 by omega),decide_eq_false ht];rfl
 unfold c55;simp only[Za,Zvl hF hm hb h.sm,C];simp only[hv,decide_true,I,cond_false,if_true,h.l139 c hF,C]
theorem Ymj(m:Mt)(x:Rp)(a:Zw):(Zg m x a).2.2.2=x.2.2.2+1:=rfl
theorem Zk4(m:Mt)(x:Rp)(a:Zw):(Zg m x a).2.1=if rpE m x.1 x.2.2.1 a=0 then x.2.1 else x.2.1++[(x.2.2.2,rpE m x.1 x.2.2.1 a)]:=rfl
theorem Zx1{m:Mt}{l:List Zw}{i:Nat}{a:Zw}{q:Q7}(h:I7 m l i q)(ha:l[i]? =some a)(hs:∀a∈l,Zy (a.1,a.2.2)):
  (rpE m q.1 q.2.2.1 a=0->∀k:Nat,(k:Int)=q.2.2.2->k<(l.foldl (Zg m) Z2).2.1.length->¬((l.foldl (Zg m) Z2).2.1.getD k (0,0)).1=(i:Int))∧
  (¬rpE m q.1 q.2.2.1 a=0->∀k:Nat,(k:Int)=q.2.2.2->k<(l.foldl (Zg m) Z2).2.1.length∧((l.foldl (Zg m) Z2).2.1.getD k (0,0)).1=(i:Int)):=by
 have hi:i<l.length:=(List.getElem?_eq_some_iff.1 ha).1;have hE:rpE m q.1 q.2.2.1 a=rpE m ((l.take i).foldl (Zg m) Z2).1 ((l.take i).foldl (Zg m) Z2).2.2.1 a:=by rw[h.s,h.d]
 have hix:((l.take i).foldl (Zg m) Z2).2.2.2=(i:Int):=by have:=(Qdx (m:=m) (l:=l.take i) Qbx (fun a ha=>hs a (ZA ha))).ix;rw[Nat.zero_add,ZF,Nat.min_eq_left (by omega)]at this;exact this
 have hsplit:l.foldl (Zg m) Z2=(l.drop (i+1)).foldl (Zg m) ((l.take (i+1)).foldl (Zg m) Z2):=by rw[<-List.foldl_append,List.take_append_drop]
 obtain⟨t,ht,hlt⟩:=Zga (m:=m) (l.drop (i+1)) ((l.take (i+1)).foldl (Zg m) Z2);rw[<-hsplit]at ht;rw[Qez ha]at ht hlt;generalize l.foldl (Zg m) Z2=P at ht;have hn:=h.n;have hix2:(Zg m ((l.take i).foldl (Zg m) Z2) a).2.2.2=(i:Int)+1:=by rw[Ymj,hix]
 rw[hix2]at hlt;constructor
 ·intro e k hk hkl;rw[hE]at e;have h1:(Zg m ((l.take i).foldl (Zg m) Z2) a).2.1=((l.take i).foldl (Zg m) Z2).2.1:=by rw[Zk4,if_pos e]
  rw[h1]at ht;rw[hn]at hk;have hk':k=((l.take i).foldl (Zg m) Z2).2.1.length:=by omega
  subst hk';rw[ht,ZB]at hkl;have ht0:0<t.length:=by omega
  have hg:P.2.1.getD ((l.take i).foldl (Zg m) Z2).2.1.length (0,0)=t[0]:=by refine getD_some ?_;rw[ht,ZC (Nat.le_refl _),Nat.sub_self];exact J ht0
  rw[hg];have:=hlt t[0] (List.getElem_mem ht0);omega
 ·intro e k hk;rw[hE]at e;have h1:(Zg m ((l.take i).foldl (Zg m) Z2) a).2.1=((l.take i).foldl (Zg m) Z2).2.1++[((i:Int),rpE m ((l.take i).foldl (Zg m) Z2).1 ((l.take i).foldl (Zg m) Z2).2.2.1 a)]:=by rw[Zk4,if_neg e,hix]
  rw[h1,List.append_assoc]at ht;rw[hn]at hk;have hk':k=((l.take i).foldl (Zg m) Z2).2.1.length:=by omega
  subst hk';refine⟨by rw[ht,ZB,ZB,List.length_singleton];omega,?_⟩;have hg:P.2.1.getD ((l.take i).foldl (Zg m) Z2).2.1.length (0,0)=((i:Int),rpE m ((l.take i).foldl (Zg m) Z2).1 ((l.take i).foldl (Zg m) Z2).2.2.1 a):=by refine getD_some ?_;rw[ht,ZC (Nat.le_refl _),Nat.sub_self];rfl
  rw[hg]
theorem Ya5(a:Mt×List Zw×ByteArray)(hok:Qt.ok [atM,atL,.val .str] a):∃F,c10 F a=some true:=by
 obtain⟨m,l,c⟩:=a;obtain⟨k1,k2,-⟩:=hok;have hmb:m.2.2.2.2.length*128<=140737488355328:=okM k1;have hlb:l.length*168<=140737488351232:=(okL k2).1;have hd:Zf=dC:=rfl;have hdA:YA=dA3:=rfl;refine⟨Qdp m l,?_⟩;have r1:100000<=Qdp m l:=by unfold Qdp;omega
 have r2:m.2.2.2.2.length<Qdp m l:=by unfold Qdp;omega
 have r3:l.length<Qdp m l:=by unfold Qdp;omega
 generalize Qdp m l=F at r1 r2 r3;have hF4:400<=F:=by omega
 have hF7:700<=F:=by omega
 obtain⟨b1,h1,h1'⟩:=l17 r2 hmb;obtain⟨b2,h2,h2'⟩:=l28 hF4 r3 (by omega) (n:=24) (by decide);have h2:c28 F (l,24)=some b2:=h2;unfold c10;simp only[Za,l15 r2 hmb,l27 r3 (show l.length*168<=140737488355328 by omega),h1,h2,C,hd,hdA,Yco];cases b1 with
 |false=>rfl
 |true=>
  cases b2 with
  |false=>rfl
  |true=>
   have hM:=h1' rfl;have hL:=h2' rfl;have hlen:=hL.len (by decide);have hmL:=hM.len;have e47:c47 F (m,c)=some (cI m c):=l47 r2 (by omega) c;simp only[I,cond_false,C,l22 hF4 hM.len,l31 hF7 hlen hL.s,e47];by_cases hv:Z9 m=0
   ·by_cases hz:(if 256<l.length then 5 else Qi (l.map Y0))=0
    ·by_cases h24:(24:Int)<l.length
     ·simp only[hv,hz,h24,decide_true,I,cond_false,cond_true,C]
     ·by_cases hc:cI m c<0
      ·simp only[hv,hz,h24,hc,decide_true,decide_false,I,cond_false,cond_true,C]
      ·have hc0:0<=cI m c:=by omega
       obtain⟨kj,ky,kj1,kj2,kj3,-⟩:=Wf hc0;have kj1:cI m c=(kj:Int):=kj1;have hcat:m.2.2.2.2.getD kj dC=Vo m c:=by rw[Zjg hc0];unfold Zl;rw[kj1];rfl
       have hkj:¬(kj:Int)<0:=by omega
       simp(disch:=omega)only[hv,hz,h24,kj1,hkj,decide_true,decide_false,I,cond_false,cond_true,C,Ze,U,hcat];by_cases ht:0<(Vo m c).2.2.2.2.2.2.2.2.2.2
       ·simp only[ht,decide_true,cond_true]
       ·simp only[ht,decide_false,cond_false];have hn:l.length<=24:=by omega
        have hz':=hz;rw[if_neg (by omega)]at hz';have he:∀a∈l,Y0 a=0:=fun a ha=>Xm hz' _ (ZH.2 ⟨a,ha,rfl⟩);have ho:Qx8 l:=⟨by omega,hL.s,he⟩;have hr0:rE m l=0:=by unfold rE;rw[hv,hz];rfl
        have hby:ByA m (rS m l):=Qwc hL.n hL.s hr0;have fL:Qcq l:=hL.n;have hfin:=Qdx (m:=m) Qbx hL.s;rw[Nat.zero_add]at hfin;have e29:=Qou hF7 hM.len hM.bd fL hL.s;have hr29:r29 m l=(rS m l,(l.foldl (Zg m) Z2).2.1,0):=by unfold r29;rw[if_pos hr0]
        rw[hr29]at e29;simp only[e29,C,decide_true,I,cond_false];have hPl:(l.foldl (Zg m) Z2).2.1.length<=l.length:=hfin.o;refine Jy l (fun(q:Q7) i=>(q.2.1,q.2.2.2,(i:Int))) (fun a q=>.inl (q7S m q a)) (fun q=>(q.2.1,q.2.2.2)) (fun i q=>I7 m l i q) (zS,[],0,0) (by omega) rfl ⟨rfl,rfl,rfl,Qyu hv,rfl,rfl,Int.le_refl _,fun _ h=>(by cases h),Nat.le_refl _⟩ ?_ ?_ ?_
        ·intro i a q hi ha hI;have hmem:=ZG ha;have hgi:GrS i q.1:=by have:=(Qdx (m:=m) (l:=l.take i) Qbx (fun a ha=>hL.s a (ZA ha))).g;rw[Nat.zero_add,ZF,Nat.min_eq_left (by omega)]at this;rw[hI.s];exact this
         refine⟨?_,fun s' hs=>?_⟩
         ·obtain⟨g1,g2⟩:=Zx1 hI ha hL.s;have hnn:=hI.n;have hc5:=hI.c5;have hkl:=(Qdx (m:=m) (l:=l.take i) Qbx (fun a ha=>hL.s a (ZA ha))).o;rw[Nat.zero_add,ZF,Nat.min_eq_left (by omega)]at hkl;generalize ((l.take i).foldl (Zg m) Z2).2.1.length=k at hnn hkl;have hcl:(q.2.1++a::Qa Zw).length=q.2.1.length+1:=Zuu _ _;generalize hP:(l.foldl (Zg m) Z2).2.1=P at g1 g2 hPl;simp(disch:=omega)only[Z1,Ze,U,getD_some ha,Zu,hnn];by_cases e:rpE m q.1 q.2.2.1 a=0
          ·have hcond:(bif decide ((k:Int)<(P.length:Int))then gd (decide ((k:Int)<(P.length:Int))) (gd (decide (k<P.length)) (some (decide ((P.getD k (0,0)).1=(i:Int)))))else some false)=some false:=by
            by_cases hk:k<P.length
            ·have h3:=g1 e k hnn.symm hk;simp(disch:=omega)only[Z1,Ze,h3,decide_false]
            ·simp(disch:=omega)only[Zz]
           rw[hcond];simp(disch:=omega)only[C,cond_false,Ze,hcl,decide_true,ZD,ZE,Zb];simp only[q7S,e,if_true,hnn];rfl
          ·obtain⟨h3,h4⟩:=g2 e k hnn.symm;have hcond:(bif decide ((k:Int)<(P.length:Int))then gd (decide ((k:Int)<(P.length:Int))) (gd (decide (k<P.length)) (some (decide ((P.getD k (0,0)).1=(i:Int)))))else some false)=some true:=by simp(disch:=omega)only[Z1,Ze,h4,decide_true]
           rw[hcond];simp(disch:=omega)only[C,cond_true,Ze,Zu,decide_true,ZD,ZE,Zb];simp only[q7S,e,if_false,hnn];rfl
         ·simp only[Sum.inl.injEq]at hs;subst hs;exact Zd6 hI hgi (by omega) ha (hL.s a hmem) (he a hmem)
        ·intro q hI;simp(disch:=omega)only[Zz,decide_true,ZD,ZE,Zb,C]
        ·rw[Qev (q7S m)];have hI:=Zcv hv ho l.length (Nat.le_refl _);rw[ZI]at hI;generalize l.foldl (q7S m) (zS,[],0,0)=q at hI;obtain⟨qs,R,qd,qn⟩:=q;have i1:=hI.s;have i2:=hI.n;have i3:=hI.c1;have i4:=hI.c2;have i5:=hI.c4;have i6:=hI.c5;rw[ZI]at i1 i2;simp only at i1 i2 i3 i4 i5 i6;have fR:Qcq R:=.inl (by omega);have sR:∀a∈R,Zy (a.1,a.2.2):=fun a ha=>hL.s a (i5 a ha);have hrR:rE m R=0:=by unfold rE;rw[hv,if_neg (by omega)];rw[Qgv (l:=R.map Y0) (fun x hx=>by obtain⟨y,hy,rfl⟩:=ZH.1 hx;exact he y (i5 y hy))];rfl
         have hSR:rS m R=rS m l:=by unfold rS;rw[i3,i1]
         have f0:Qcq ([]:List Zw):=.inl (by simp);have s0:∀a∈([]:List Zw),Zy (a.1,a.2.2):=fun _ h=>by cases h
         have hr0':rE m []=0:=by unfold rE;rw[hv];rfl
         have ce:∀l1 l2:List Zw,rE m l1=0->rE m l2=0->chE m l1 l2 c=0:=fun l1 l2 h1 h2=>by unfold chE;rw[h1,h2,if_neg hc,if_neg ht];rfl
         have e46a:c46 F (m,l,R,c)=some ([],0):=by rw[l46 hF7 hM.len hM.bd fL fR hL.s sR,if_pos (ce _ _ hr0 hrR),hSR,Qus hby]
         have e46b:c46 F (m,R,l,c)=some ([],0):=by rw[l46 hF7 hM.len hM.bd fR fL sR hL.s,if_pos (ce _ _ hrR hr0),hSR,Qus hby]
         have e46c:c46 F (m,l,l,c)=some ([],0):=by rw[l46 hF7 hM.len hM.bd fL fL hL.s hL.s,if_pos (ce _ _ hr0 hr0),Qus hby]
         have e46d:c46 F (m,Qa Zw,l,c)=some (Yq (Xt (rS m l) c),0):=by have:=l46 hF7 hM.len hM.bd f0 fL s0 hL.s c;rw[if_pos (ce _ _ hr0' hr0),show rS m []=zS from rfl,Ylz]at this;exact this
         have e29b:=Qou hF7 hM.len hM.bd fR sR;have hr29b:r29 m R=(rS m l,[],0):=by unfold r29;rw[if_pos hrR,hSR,i4]
         rw[hr29b]at e29b;have hls:Qxj (rS m l):=Zyt hby.g (by decide);have hDl:(Yq (Xt (rS m l) c)).length=(X3 (rS m l) c).length:=by rw[Qgx];unfold Xt;rw[List.length_map]
         have hD20:=hby.list c;have hasc:=Zw9 (Qjx hby.ok c);have hmem:∀x∈Yq (Xt (rS m l) c),0<=eI (rS m l) x c:=fun x hx=>Yfh hby ((Qvh _).mem_iff.1 hx);have hw0:w64 (w64 (((([]:List ByteArray).length:Nat):Int)+((([]:List ByteArray).length:Nat):Int))+((([]:List ByteArray).length:Nat):Int))=0:=rfl;simp only[decide_true,ZD,ZE,Bool.true_and,Zb,e46a,e46b,e46c,e46d,C,i2,I,cond_false,hw0,e29b,Yl1 hF4 hls,Yhl,l26 hF4 hM.len hby.sm,hby.st,Zzq hF4 hM.len hM.bd hby hc0 ht,hDl];generalize hD:Yq (Xt (rS m l) c)=D at hDl hasc hmem;rw[<-hDl];refine Jy D (fun(_:Unit) i=>(i:Int)) (fun _ _=>(.inl ():Unit ⊕ (Bool ⊕ Unit))) (fun _=>.inr ()) (fun _ _=>True) () (by omega) rfl trivial ?_ ?_ ?_
         ·intro i x _ hi hx _;refine⟨?_,fun _ _=>trivial⟩;have hxe:=hmem x (ZG hx);have hxe':¬eI (rS m l) x c<0:=by omega
          simp(disch:=omega)only[Z1,Ze,U,getD_some hx,Zu,l53 hF4 hby.sm,hxe',decide_false,cond_false,C];cases i with
          |zero=>rfl
          |succ j=>
           have hj:j<D.length:=by omega
           have hg:D.getD j ByteArray.empty=D[j]:=getD_some (J hj);have hgx:x=D[j+1]:=by rw[J hi]at hx;exact(Option.some.inj hx).symm
           have hlt:ltS D[j] x=true:=by rw[hgx];exact List.pairwise_iff_getElem.1 hasc j (j+1) hj hi (Nat.lt_succ_self j)
           simp(disch:=omega)only[Z1,Ze,Zu,show((j+1:Nat):Int)-1=(j:Int)by omega,U,hg,Yks,hlt,I,C,cond_false];rfl
         ·intro _ _;simp(disch:=omega)only[Zz]
         ·rw[Zib];rfl
    ·simp only[hv,hz,decide_true,decide_false,I,ZJ,cond_false,cond_true,C]
   ·simp only[hv,decide_false,ZJ,cond_true,C]
end Go.Proofs.Tryz
