/- Plain law: EntryShared. -/
import Derived.Test.YtpkbmngnolhopaaGreatDoorXTeA
set_option maxRecDepth 100000
set_option linter.unusedVariables false
set_option linter.unusedSimpArgs false
namespace Go.Proofs.Tryz
open Go Go.Sx
theorem Zxc{F:Nat}{m:Mt}{s:Qw}(hF:100000≤F)(hm:m.2.2.2.2.length<F)(hmb:m.2.2.2.2.length*128≤140737488355328)(f:Qlc F s)(hb:ByS s):
  ∃b,c51 F (m,s)=some b∧(b=true→MtS m∧ShS s∧stE m s=0):=by
 obtain⟨b1,h1,h1'⟩:=l17 hm hmb;obtain⟨b2,h2,h2'⟩:=l18 f hb;unfold c51;simp only[Zp,h1,h2,Option.bind_some];cases b1 with
 |false=>exact⟨false,rfl,fun h=>by cases h⟩
 |true=>
  cases b2 with
  |false=>exact⟨false,rfl,fun h=>by cases h⟩
  |true=>have hM:=h1' rfl;have hH:=h2' rfl;simp only[cond_true,l26 (show 400≤F by omega) hM.len hH.sm,Option.bind_some];exact⟨_,rfl,fun h=>⟨hM,hH,of_decide_eq_true h⟩⟩
theorem Zrf(m:Mt)(s:Qw)(a:ByteArray):(J6 m s a).length≤m.2.2.2.2.length:=by unfold J6;rw[List.length_map];exact List.length_filter_le ..
theorem Zsy{m:Mt}(s:Qw)(a:ByteArray){c:Zv}(hc:c∈m.2.2.2.2):hasB (J6 m s a) c.1=inP s a c.1:=by
 rw[Bool.eq_iff_iff,Zxp];unfold J6;rw[List.mem_map];constructor
 ·rintro ⟨d,hd,e⟩
  have:=(List.mem_filter.1 hd).2;rwa[e]at this
 ·intro h;exact⟨c,List.mem_filter.2 ⟨hc,h⟩,rfl⟩
theorem Zr8{m:Mt}(hv:mtE m=0){c:Zv}(hc:c∈m.2.2.2.2):0≤c.2.2.2.2.2.2.2.2.2.2:=by
 obtain⟨j,hj⟩:=List.getElem?_of_mem hc;have h:=Qzk hv (List.getElem?_eq_some_iff.1 hj).1;unfold Xu at h;rw[getD_some hj]at h;split at h
 ·split at h
  ·cases h
  ·unfold Qd0 at h;split at h
   ·cases h
   ·split at h
    ·cases h
    ·split at h
     ·cases h
     ·split at h
      ·cases h
      ·split at h
       ·cases h
       ·rename_i h5;unfold Yy at h5;simp only[Bool.or_eq_true,decide_eq_true_eq]at h5;omega
 ·cases h
theorem Zyf{m:Mt}{s:Qw}(hv:stE m s=0){c:Zv}(hc:c∈m.2.2.2.2):Vr m s c.1 (decide (0<c.2.2.2.2.2.2.2.2.2.2))=0:=by
 obtain⟨j,hj⟩:=List.getElem?_of_mem hc;have h1:=Qf4 (Qa8 hv) hj;have hca:Qc3 m c.1=c:=by rw[Zqo (by omega)];unfold cAt;rw[h1];exact getD_some hj
 unfold Vr;rw[hv,hca,if_neg (by omega)];simp[Qn]
theorem Zac{α:Type}:∀(l:List α),(prs l).length≤l.length*l.length
 |[]=>Nat.le_refl _
 |x::l=>by have:=Zac l;simp only[prs,List.length_append,List.length_map,List.length_cons,Nat.add_mul,Nat.mul_add];omega
theorem Zyc{F:Nat}{m:Mt}{s:Qw}(hF:100000≤F)(hm:m.2.2.2.2.length<F)(hmb:m.2.2.2.2.length*128≤140737488355328)(f:Qlc F s)(hb:ByS s):Qdw F (m,s) m s=some true:=by
 have hF4:400≤F:=by omega
 have hdA:Xd=dA:=rfl;have hdC:Q2=dC:=rfl;have hdT:(ByteArray.empty,ByteArray.empty,Qb ByteArray)=dT:=rfl;have hdE:Zm=dE:=rfl;obtain⟨b,h1,h1'⟩:=Zxc hF hm hmb f hb;unfold Qdw;simp only[Zp,h1,Option.bind_some];cases b with
 |false=>rfl
 |true=>
  obtain⟨hM,hH,hv⟩:=h1' rfl;have hS:=hH.sm;have hml:=hM.len;simp only[Bool.not_true,cond_false,l37 hF4 hM.len hM.bd hS,hv,if_true,Option.bind_some,decide_true,hdA,hdC,hdT,hdE];refine Xz s.2.1 (fun(mp:List (BP×Bool)) i=>(mp,(i:Int))) (fun y mp=>.inl ((prs (J6 m s y.1)).foldl Xe mp)) (fun mp=>.inr mp) (fun _ _=>True) [] (by have:=hS.a;omega) rfl trivial ?_ ?_ ?_
  ·intro i y mp hi hy _;refine⟨?_,fun _ _=>trivial⟩;have hya:0≤aI s y.1:=by unfold aI;have:=Qam (fun z:Ath=>Qf z.1 y.1) s.2.1;rw[List.any_eq_true.2 ⟨y,List.mem_of_getElem? hy,J8 _⟩,decide_eq_true_eq]at this;exact this
   have hvw:Yp m s y.1=0:=by unfold Yp;rw[hv,if_neg (by omega)];rfl
   have hcl:=Zrf m s y.1;have hal:=hS.a;simp(disch:=omega)only[Ze,Zj,Int.toNat_natCast,getD_some hy,Zb,l36 hF4 hM.len hM.bd hS,hvw,if_true,Option.bind_some,decide_true,Bool.not_true,cond_false];generalize hL:J6 m s y.1=L at hcl;refine Xz L (fun(q:List (BP×Bool)×Nat) i=>(q.1,(i:Int))) (fun x q=>.inl ((L.drop (q.2+1)).foldl (fun mp y=>Xe mp (x,y)) q.1,q.2+1)) (fun q=>q.1) (fun i q=>q.2=i) (mp,0) (by omega) rfl rfl ?_ ?_ ?_
   ·intro j x q hj hx hq;refine⟨?_,fun s' hs=>?_⟩
    ·have hw:w64 ((j:Int)+1)=((j+1:Nat):Int):=by rw[Zb (by omega) (by omega)];rfl
     simp(disch:=omega)only[Ze,Zj,Int.toNat_natCast,getD_some hx,hw,List.take_length];refine Xz (L.drop (j+1)) (fun(mp:List (BP×Bool)) i=>(mp,(i:Int))) (fun y mp=>.inl (Xe mp (x,y))) (fun mp=>mp) (fun _ _=>True) q.1 (by rw[List.length_drop];omega) rfl trivial ?_ ?_ ?_
     ·intro k z mp2 hk hz _;refine⟨?_,fun _ _=>trivial⟩;rw[List.length_drop]at hk;simp(disch:=first|omega|(rw[List.length_drop];omega))only[Ze,Zj,Int.toNat_natCast,getD_some hz,Zb]
      first|done|rfl
     ·intro mp2 _;simp(disch:=omega)only[Zd]
     ·rw[V9,hq]
    ·simp only[Sum.inl.injEq]at hs;subst hs;show q.2+1=j+1;rw[hq]
   ·intro q hq;simp(disch:=omega)only[Zd]
   ·rw[V9 (fun(q:List (BP×Bool)×Nat) x=>((L.drop (q.2+1)).foldl (fun mp y=>Xe mp (x,y)) q.1,q.2+1))];have hpf:=Qz8 L L [] mp rfl;have hpf:(L.foldl (fun(q:List (BP×Bool)×Nat) x=>((L.drop (q.2+1)).foldl (fun mp y=>Xe mp (x,y)) q.1,q.2+1)) (mp,0)).1=(prs L).foldl Xe mp:=hpf;rw[hpf];refine Xz m.2.2.2.2 (fun(_:Unit) i=>(i:Int)) (fun _ _=>(.inl ():Unit ⊕ (Bool ⊕ Unit))) (fun _=>.inr ()) (fun _ _=>True) () hm rfl trivial ?_ ?_ ?_
    ·intro k c _ hk hc _;refine⟨?_,fun _ _=>trivial⟩;have hcm:=List.mem_of_getElem? hc;have hop:=Zyf hv hcm;have hin:=Zsy s y.1 hcm;rw[hL]at hin;have h54:c54 F (L,c.1)=some (inP s y.1 c.1):=by rw[l54 hF4 (by omega),hin]
     by_cases ht:0<c.2.2.2.2.2.2.2.2.2.2
     ·rw[decide_eq_true ht]at hop;simp(disch:=omega)only[Ze,Zj,Int.toNat_natCast,getD_some hc,Zb,ht,decide_true,cond_true,l70 hF4 hM.len hM.bd hH,hop,if_true,Option.bind_some,Bool.not_true,cond_false];have hfl:(s.2.2.2.2.filter fun t=>Qf t.2.1 c.1).length≤300:=Nat.le_trans (List.length_filter_le ..) hS.t;have loop:=Qou (F:=F) (t:=(false,(0:Int))) (step:=fun(v:Bool×Int)=>bif decide (v.2<(((s.2.2.2.2.filter fun t=>Qf t.2.1 c.1).length:Nat):Int))then gd (decide (0≤v.2)) (gd (decide (v.2<(((s.2.2.2.2.filter fun t=>Qf t.2.1 c.1).length:Nat):Int))) (gd (decide (v.2.toNat<(s.2.2.2.2.filter fun t=>Qf t.2.1 c.1).length)) ((bif v.1 then some true else(c54 F (((s.2.2.2.2.filter fun t=>Qf t.2.1 c.1).getD v.2.toNat dT).2.2,y.1)).bind fun b=>some b).bind fun b=>some (Sum.inl (b,w64 (v.2+1))))))else some (Sum.inr v.1)) (s.2.2.2.2.filter fun t=>Qf t.2.1 c.1) (fun(b:Bool) i=>(b,(i:Int))) (fun t b=>.inl (b||hasB t.2.2 y.1)) (fun b=>b) (fun _ _=>True) ?_ ?_ rfl trivial (by omega)
      ·have hth:goL (fun t b=>(Sum.inl (b||hasB t.2.2 y.1):Bool ⊕ Bool)) (fun b=>b) (s.2.2.2.2.filter fun t=>Qf t.2.1 c.1) false=inP s y.1 c.1:=by rw[V9,Qq0,Bool.false_or,Zjc hv hcm ht]
       rw[loop,hth];simp only[Option.bind_some,Sum.elim_inr,h54];cases inP s y.1 c.1<;>rfl
      ·intro n t b hn hnt _;refine⟨?_,fun _ _=>trivial⟩;have htr:=hS.tn t (List.mem_filter.1 (List.mem_of_getElem? hnt)).1;simp(disch:=omega)only[Ze,Zj,Int.toNat_natCast,getD_some hnt,Zb,l54 hF4 htr];cases b<;>rfl
      ·intro b _;simp(disch:=omega)only[Zd]
     ·rw[decide_eq_false ht]at hop;simp(disch:=omega)only[Ze,Zj,Int.toNat_natCast,getD_some hc,Zb,ht,decide_false,decide_true,cond_false,l55 hF4 hM.len hM.bd hH,hop,if_true,Option.bind_some,Bool.not_true];have hfl:(Jk s c.1).length≤300:=Nat.le_trans (Ze0 hH hv c.1) (by decide);have loop:=Qou (F:=F) (t:=(false,(0:Int))) (step:=fun(v:Bool×Int)=>bif decide (v.2<(((Jk s c.1).length:Nat):Int))then gd (decide (0≤v.2)) (gd (decide (v.2<(((Jk s c.1).length:Nat):Int))) (gd (decide (v.2.toNat<(Jk s c.1).length)) ((bif v.1 then some true else some (Qf ((Jk s c.1).getD v.2.toNat dE).1 y.1)).bind fun b=>some (Sum.inl (b,w64 (v.2+1))))))else some (Sum.inr v.1)) (Jk s c.1) (fun(b:Bool) i=>(b,(i:Int))) (fun t b=>.inl (b||Qf t.1 y.1)) (fun b=>b) (fun _ _=>True) ?_ ?_ rfl trivial (by omega)
      ·have hth:goL (fun t b=>(Sum.inl (b||Qf t.1 y.1):Bool ⊕ Bool)) (fun b=>b) (Jk s c.1) false=inP s y.1 c.1:=by rw[V9,Qq0,Bool.false_or,Zts hv hcm ht (Zr8 (Qa8 hv) hcm)]
       rw[loop,hth];simp only[Option.bind_some,Sum.elim_inr,h54];cases inP s y.1 c.1<;>rfl
      ·intro n t b hn hnt _;refine⟨?_,fun _ _=>trivial⟩;simp(disch:=omega)only[Ze,Zj,Int.toNat_natCast,getD_some hnt,Zb];cases b<;>rfl
      ·intro b _;simp(disch:=omega)only[Zd]
    ·intro _ _;simp(disch:=omega)only[Zd]
    ·rw[Qrx];rfl
  ·intro mp _;simp(disch:=omega)only[Zd]
  ·rw[V9];have hall:s.2.1.foldl (fun mp y=>(prs (J6 m s y.1)).foldl Xe mp) []=Qbk m s:=by unfold Qbk;rw[List.foldl_flatMap]
   simp only[hall,Sum.elim_inr];have hcl:(clS m s).length≤90000:=by rw[Qpx,List.length_map];refine Nat.le_trans (List.length_filter_le ..) (Nat.le_trans (Zac m.2.2.2.2) ?_);exact Nat.le_trans (Nat.mul_le_mul hml hml) (by decide)
   refine Xz (clS m s) (fun(_:Unit) i=>(i:Int)) (fun _ _=>(.inl ():Unit ⊕ (Bool ⊕ Unit))) (fun _=>.inr ()) (fun _ _=>True) () (by omega) rfl trivial ?_ ?_ ?_
   ·intro i p _ hi hp _;refine⟨?_,fun _ _=>trivial⟩;have hg:=Zse (List.mem_of_getElem? hp);have hg0:Ym ((Qe.agg kt4).eqv) p (Qbk m s) false=true:=hg;have hg:Ym ((Qe.agg kt4).eqv) (p.1,p.2) (Qbk m s) false=true:=hg;have e47:∀x,c47 F (m,x)=some (cI m x):=fun x=>l47 hm (by omega) x;simp(disch:=omega)only[Ze,Zj,Int.toNat_natCast,Zb];have hgd:@List.getD (Ty.str.El×ByteArray) (clS m s) i (ByteArray.empty,ByteArray.empty)=p:=getD_some hp;have hgd2:@List.getD (ByteArray×ByteArray) (clS m s) i (ByteArray.empty,ByteArray.empty)=p:=getD_some hp;have hgd3:@List.getD (ByteArray×Qh Zr) (clS m s) i (ByteArray.empty,ByteArray.empty)=p:=getD_some hp;simp only[hgd,hgd2,hgd3,hg,hg0];cases i with
    |zero=>rfl
    |succ k=>
     have hq:(clS m s)[k]? =some ((clS m s)[k]'(by omega)):=List.getElem?_eq_getElem (by omega);generalize (clS m s)[k]'(by omega)=q at hq;have hord:=List.pairwise_iff_getElem.1 (Zas (Qa8 hv) s) k (k+1) (by omega) hi (by omega);have e1:(clS m s)[k]'(by omega)=q:=by have:=List.getElem?_eq_getElem (l:=clS m s) (i:=k) (by omega);rw[hq]at this;exact(Option.some.inj this).symm
     have e2:(clS m s)[k+1]'hi=p:=by have:=List.getElem?_eq_getElem (l:=clS m s) hi;rw[hp]at this;exact(Option.some.inj this).symm
     rw[e1,e2]at hord;have hw:w64 (((k+1:Nat):Int)-1)=(k:Int):=by rw[Zb (by omega) (by omega)];omega
     have hk1:(((k+1:Nat):Int)-1).toNat=k:=by omega
     rw[show((clS m s).getD (((k+1:Nat):Int)-1).toNat (ByteArray.empty,ByteArray.empty))=q by rw[hk1];exact getD_some hq];simp(disch:=omega)only[Bool.not_true,cond_false,Ze,Zj,e47,Option.bind_some];have n1:¬cI m p.1<cI m q.1:=by omega
     simp only[n1,decide_false,cond_false];by_cases hs:Qf q.1 p.1=true
     ·have hs':=X4.1 hs;have n2:¬cI m p.2≤cI m q.2:=by
       rcases hord with h|h
       ·rw[hs']at h;omega
       ·omega
      simp only[hs,cond_true,n2,decide_false,Option.bind_some,cond_false];rfl
     ·simp only[Bool.eq_false_iff.2 hs,cond_false,Option.bind_some];rfl
   ·intro _ _;simp(disch:=omega)only[Zd]
   ·rw[Qrx];simp only[Sum.elim_inr,Zvm (Qa8 hv),decide_true,cond_true,Option.bind_some]
theorem Zm9(a:Mt×Qw)(hok:Qx.ok [atM,atS] a):∃F,c14 F a=some true:=by obtain⟨m,s⟩:=a;obtain⟨k1,k2⟩:=hok;have hmb:=okM k1;have hb:=okS k2;obtain⟨r1,r2,r3⟩:=Zht m s;refine⟨Qc2 m s,?_⟩;generalize Qc2 m s=F at r1 r2 r3;have e15:c15 F (m.1,m.2.1,m.2.2.1,m.2.2.2.1,m.2.2.2.2)=some m:=l15 r2 hmb;have e16:c16 F (s.1,s.2.1,s.2.2.1,s.2.2.2.1,s.2.2.2.2)=some s:=l16 ⟨r3.l,r3.e,r3.t⟩ ⟨hb.l,hb.e,hb.t⟩;unfold c14 tw;simp only[e15,e16,Zyc r1 r2 hmb r3 hb,Option.bind_some,Zxj,Zw]
end Go.Proofs.Tryz
