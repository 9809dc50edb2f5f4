/- Plain law: CheckRelay by the reference, CheckTeam of both. Plain law: CheckTeams, by the program and by the reference. And further parts. -/
import Derived.Test.YtebmfbcngojbdaaGreatDoorXTkM
import Derived.Test.YtebmfbcngojbdaaGreatDoorXSxQh
import Derived.Sort.Walk0
set_option maxRecDepth 100000
set_option linter.unusedVariables false
set_option linter.unusedSimpArgs false
namespace Go.Proofs.Tryz
open Go Go.Sx
theorem Qqw:∀(l:List (Int×Int)),(List.range (l.length-1)).any (fun i=>decide ((l.getD (i+1) (0,0)).1≤(l.getD i (0,0)).2))=chB l
 |[]=>rfl
 |[z]=>rfl
 |z::y::l=>by have ih:=Qqw (y::l);rw[show(z::y::l).length-1=((y::l).length-1)+1 by simp,List.range_succ_eq_map,List.any_cons,List.any_map,chB,←ih];rfl
theorem Zjy(l:List (Int×Int)):l.getD (l.length-1) (0,0)=l.getLastD (0,0):=by rw[List.getLastD_eq_getLast?,List.getLast?_eq_getElem?,List.getD_eq_getElem?_getD]
theorem l15{F:Nat}(hF:400≤F){r:Rl}(hr:r.1.length≤11):c15 F r=some (rlE r):=by
 unfold c15;simp only[l24,Option.bind_some];unfold rlE;by_cases h1:(r.1.length:Int)<2∨(8:Int)<r.1.length
 ·rw[if_pos h1,decide_eq_true h1];rfl
 ·rw[if_neg h1,decide_eq_false h1,cond_false];have hany:Zd (r.1.map fun n=>if Yi n=true then(3:Int)else 0)=if r.1.any Yi=true then 3 else 0:=by
   generalize r.1=l;induction l with
   |nil=>rfl
   |cons y l ih=>
    rw[List.map_cons,List.any_cons,Zd];cases h:Yi y
    ·simpa[h]using ih
    ·simp[h]
  refine Qr6 r.1 (fun n=>if Yi n=true then(3:Int)else 0) (by omega) ?_ ?_ ?_
  ·intro i x hi hx;simp(disch:=omega)only[Ya,Zt,Int.toNat_natCast,getD_some hx,Zz,l24,Option.bind_some];unfold Yi;by_cases h:x<1∨999999<x<;>simp[h]
  ·simp(disch:=omega)only[Z9]
  ·rw[hany];by_cases hf:r.1.any Yi=true
   ·have:rlB r=true:=by unfold rlB;rw[hf];rfl
    simp[hf,this]
   ·have hf':r.1.any Yi=false:=by
     cases h:r.1.any Yi with
     |false=>rfl
     |true=>exact absurd h hf
    simp only[hf',Bool.false_eq_true,if_false,if_true,Sum.elim_inr];by_cases hb:rlB r=true
    ·rw[if_pos hb];unfold rlB Yi at hb;rw[show(r.1.any fun n=>decide (n<1∨999999<n))=false from hf',Bool.false_or]at hb;by_cases q2:r.2.1<1∨999999<r.2.1
     ·simp[q2]
     ·rw[decide_eq_false q2,Bool.false_or]at hb;rw[decide_eq_false q2,cond_false,hb];rfl
    ·rw[if_neg hb];have ho:=Qv8 h1 hb;have hz:=ho.z;have hbb:=ho.b;have q2:¬(r.2.1<1∨999999<r.2.1):=by omega
     have q3:¬(r.2.2<0∨r.2.1<r.2.2):=by omega
     have hl:=Qzm ho;have hn:=ho.l.n;have hbd:=Qx0 ho;rw[decide_eq_false q2,decide_eq_false q3];simp only[cond_false,V8,l42 hF ho,l43 hF ho.l,Option.bind_some];have h43:c43 F r=some (Zo r.1):=l43 hF ho.l r.2.1 r.2.2;have hw:w64 ((Z4 r).length-1:Int)=(((Z4 r).length-1:Nat):Int):=by rw[Zz (by omega) (by omega)];omega
     have hch:=Qqw (Z4 r);have hla:=Zjy (Z4 r);have hpos:0<(Z4 r).length:=by omega
     obtain⟨z0,Z,hZ⟩:∃z0 Z,Z4 r=z0::Z:=by
      cases h:Z4 r with
      |nil=>rw[h]at hpos;simp at hpos
      |cons z0 Z=>exact⟨z0,Z,rfl⟩
     have h0:(Z4 r).getD 0 (0,0)=z0:=by rw[hZ];rfl
     have hpB:=Qxp (Zo r.1) Z 0 z0;rw[←hZ]at hpB;rw[hpB,←hch,←hla];simp(disch:=omega)only[Zt,h0,hw,Int.toNat_natCast,h43,Option.bind_some];by_cases g1:z0.1<0
     ·simp[g1]
     ·by_cases g2:Zo r.1<((Z4 r).getD ((Z4 r).length-1) (0,0)).2
      ·simp only[g1,g2,decide_true,decide_false,cond_true,cond_false,Bool.false_or,Bool.true_or,if_true,Option.bind_some]
      ·simp only[g1,g2,decide_false,cond_false,Bool.false_or,Option.bind_some];refine Yy (List.range ((Z4 r).length-1)) (fun(_:Unit) i=>(i:Int)) (fun i (_:Unit)=>if decide (((Z4 r).getD (i+1) (0,0)).1≤((Z4 r).getD i (0,0)).2)=true then .inr (.inl 18)else .inl ()) (fun _=>(.inr ():Int ⊕ Unit)) (fun _ _=>True) () (by simp;omega) rfl trivial ?_ ?_ ?_
       ·intro i x _ hi hx _;obtain rfl:=Qb3 hx;simp only[List.length_range]at hi;have hw2:w64 ((x:Int)+1)=((x+1:Nat):Int):=by rw[Zz (by omega) (by omega)];omega
        refine⟨?_,fun _ _=>trivial⟩;simp(disch:=omega)only[hw2,Ya,Zt,Int.toNat_natCast];by_cases h:((Z4 r).getD (x+1) (0,0)).1≤((Z4 r).getD x (0,0)).2
        ·simp only[h,decide_true,cond_true,if_true]
        ·simp only[h,decide_false,cond_false,if_false,Bool.false_eq_true]
       ·intro _ _;simp(disch:=omega)only[Zz,Z9,List.length_range]
       ·rw[Kp (fun i=>decide (((Z4 r).getD (i+1) (0,0)).1≤((Z4 r).getD i (0,0)).2))];cases(List.range ((Z4 r).length-1)).any fun i=>decide (((Z4 r).getD (i+1) (0,0)).1≤((Z4 r).getD i (0,0)).2)<;>rfl
def tmE(r:Rl)(t:List ByteArray):Int:=Zd [rlE r,if(t.length:Int)=r.1.length then 0 else 2,Xn t]
theorem l17{F:Nat}(hF:400≤F){r:Rl}(hr:r.1.length≤11){t:List ByteArray}(ht:t.length≤300)(hs:∀x∈t,x.size≤300):c17 F (r,t)=some (tmE r t):=by unfold c17 tmE;simp only[V8,l45 hF hr,l27,l46 hF ht hs,Option.bind_some,l25 (F:=F) (l:=_::_::_::nilT Int) (by simp[nilT];omega) (by simp[nilT])];by_cases h:(t.length:Int)=r.1.length<;>simp[h]<;>rfl
theorem l16{F:Nat}(hF:400≤F){r:Rl}{t:List ByteArray}(ht:t.length≤300):c16 F (r,t)=some (Zd [if(t.length:Int)=r.1.length then 0 else 2,Xn t]):=by
 unfold c16;by_cases h:(t.length:Int)=r.1.length
 ·simp only[h,decide_true,Bool.not_true,cond_false,if_true,l44 hF ht,Option.bind_some];by_cases h2:Xn t=0<;>simp[Zd,h2]
 ·simp[h,Zd]
def Z5(O:List ByteArray)(x:ByteArray):List ByteArray:=if hasB O x=true then O else O++[x]
theorem Qsa{V:Type}{k:ByteArray}{v:V}:∀{M:List (ByteArray×V)},(mput strEq k v M).map (·.1)=Z5 (M.map (·.1)) k
 |[]=>by rw[Qv1];rfl
 |e::M=>by
  have ih:=Qsa (k:=k) (v:=v) (M:=M);rw[Qw6];unfold Z5 hasB at ih⊢;by_cases h:strEq k e.1=true
  ·have:=Qf3.1 h;simp[h,←this,Qm4]
  ·rw[if_neg h];have h2:strEq e.1 k=false:=by rw[Qmz];simpa using h
   simp only[List.map_cons,List.any_cons,h2,Bool.false_or,ih];split<;>rfl
def Z8(T0 t:List ByteArray):List ByteArray:=t.filter fun s=>!hasB T0 s
theorem Qer(l:List ByteArray):∀(M:List (ByteArray×Bool)),(l.foldl (fun M x=>mput strEq x true M) M).map (·.1)=l.foldl Z5 (M.map (·.1)):=by
 induction l with
 |nil=>intro M;rfl
 |cons x l ih=>intro M;rw[List.foldl_cons,ih,Qsa,List.foldl_cons]
theorem Qu6(O:List ByteArray)(x:ByteArray):(Z5 O x).length≤O.length+1:=by
 unfold Z5;split
 ·omega
 ·simp
def Kg(T0 R:List ByteArray)(O:List ByteArray)(t:List ByteArray):Int:=if(Z8 T0 t).any (fun s=>!hasB R s)=true then 10 else if 2<((Z8 T0 t).foldl Z5 O).length then 18 else 0
def ctL(r:Rl)(T0 R:List ByteArray):List (List ByteArray)→Int→List ByteArray→Int×Int
 |[],_,_=>(0,0)
 |t::ts,i,O=>if tmE r t=0 then(if Kg T0 R O t=0 then ctL r T0 R ts (i+1) ((Z8 T0 t).foldl Z5 O)else(i,Kg T0 R O t))else(i,tmE r t)
abbrev Cq:=List (ByteArray×Bool)×Int
def cqB(r:Rl)(T0 R:List ByteArray)(t:List ByteArray)(q:Cq):Cq ⊕ (Cq×Int ⊕ List (ByteArray×Bool)):=
 if tmE r t=0 then(if Kg T0 R (q.1.map (·.1)) t=0 then .inl ((Z8 T0 t).foldl (fun M x=>mput strEq x true M) q.1,q.2+1)else .inr (.inl (((Z8 T0 t).foldl (fun M x=>mput strEq x true M) q.1,q.2),Kg T0 R (q.1.map (·.1)) t)))else .inr (.inl (q,tmE r t))
theorem Qrq(r:Rl)(T0 R:List ByteArray):∀(ts:List (List ByteArray)) (q:Cq),(match goL (cqB r T0 R) (fun q=>(.inr q.1:Cq×Int ⊕ List (ByteArray×Bool))) ts q with
  |.inl v=>(v.1.2,v.2)
  |.inr _=>((0:Int),(0:Int)))=ctL r T0 R ts q.2 (q.1.map (·.1))
 |[],q=>rfl
 |t::ts,q=>by
  rw[Wh,ctL];unfold cqB;by_cases h1:tmE r t=0
  ·by_cases h2:Kg T0 R (q.1.map (·.1)) t=0
   ·simp only[h1,h2,if_true];have ih:=Qrq r T0 R ts ((Z8 T0 t).foldl (fun M x=>mput strEq x true M) q.1,q.2+1);simp only[Qer]at ih;exact ih
   ·simp only[h1,h2,if_true,if_false]
  ·simp only[h1,if_false]
def Vs(r:Rl)(ts:List (List ByteArray))(R:List ByteArray):Int:=Zd [rlE r,if ts.length=0 then 12 else 0,if 8<ts.length then 5 else 0,if 16<R.length then 5 else 0,Xn R]
structure Qfn (ts:List (List ByteArray)) (R:List ByteArray):Prop where
 n:ts.length≤11
 t:∀t∈ts,t.length≤11∧∀x∈t,x.size≤60
 r:R.length≤20
 rs:∀x∈R,x.size≤60
def ctE(r:Rl)(ts:List (List ByteArray))(R:List ByteArray):Int×Int:=if Vs r ts R=0 then ctL r (ts.getD 0 (nilT ByteArray)) R ts 0 []else(0,Vs r ts R)
theorem Qu3(T0 R:List ByteArray):∀(t:List ByteArray) (q:List (ByteArray×Bool)×Bool),t.foldl (fun(q:List (ByteArray×Bool)×Bool) x=>if hasB T0 x=true then q else(mput strEq x true q.1,q.2|| !hasB R x)) q=((Z8 T0 t).foldl (fun M x=>mput strEq x true M) q.1,q.2||(Z8 T0 t).any fun s=>!hasB R s)
 |[],q=>by simp[Z8]
 |x::t,q=>by
  rw[List.foldl_cons,Qu3 T0 R t];unfold Z8;rw[List.filter_cons];cases h:hasB T0 x
  ·simp[Bool.or_assoc]
  ·simp
theorem l18{F:Nat}(hF:400≤F){r:Rl}(hr:r.1.length≤11){ts:List (List ByteArray)}{R:List ByteArray}(h:Qfn ts R):c18 F (r,ts,R)=some (ctE r ts R):=by
 have e5:∀a b c d e,c25 F (a::b::c::d::e::nilT Int)=some (Zd [a,b,c,d,e]):=fun a b c d e=>l25 (by simp[nilT];omega) (by simp[nilT]);have e2:∀a b,c25 F (a::b::nilT Int)=some (Zd [a,b]):=fun a b=>l25 (by simp[nilT];omega) (by simp[nilT]);have hn:=h.n;have hR:=h.r;have q1:(if decide ((ts.length:Int)=0)=true then(12:Int)else 0)=if ts.length=0 then 12 else 0:=by by_cases q:ts.length=0<;>simp[q]
 have q2:(if decide ((8:Int)<ts.length)=true then(5:Int)else 0)=if 8<ts.length then 5 else 0:=by
  by_cases q:8<ts.length
  ·have:(8:Int)<ts.length:=by omega
   simp[q,this]
  ·have:¬(8:Int)<ts.length:=by omega
   simp[q,this]
 have q3:(if decide ((16:Int)<R.length)=true then(5:Int)else 0)=if 16<R.length then 5 else 0:=by
  by_cases q:16<R.length
  ·have:(16:Int)<R.length:=by omega
   simp[q,this]
  ·have:¬(16:Int)<R.length:=by omega
   simp[q,this]
 unfold c18;simp only[V8,l45 hF hr,l27,l46 hF (show R.length≤300 by omega) (fun x hx=>Nat.le_trans (h.rs x hx) (by decide)),Option.bind_some,e5,q1,q2,q3];have hE:Zd [rlE r,if ts.length=0 then 12 else 0,if 8<ts.length then 5 else 0,if 16<R.length then 5 else 0,Xn R]=Vs r ts R:=rfl;rw[hE];unfold ctE;by_cases h0:Vs r ts R=0
 ·have hpos:0<ts.length:=by
   rcases Nat.eq_zero_or_pos ts.length with q|q
   ·exfalso;unfold Vs at h0;by_cases z:rlE r=0<;>simp[Zd,z,q]at h0
   ·exact q
  simp only[h0,decide_true,Bool.not_true,cond_false,if_true];generalize hT0:ts.getD 0 (nilT ByteArray)=T0;have hT0m:T0∈ts:=by
   have:ts[0]? =some T0:=by rw[List.getD_eq_getElem?_getD,List.getElem?_eq_getElem hpos]at hT0;rw[List.getElem?_eq_getElem hpos];exact congrArg some hT0
   exact List.mem_of_getElem? this
  have hT0l:=(h.t T0 hT0m).1;refine Yy ts (fun(q:Cq) i=>(q.1,(i:Int))) (fun t q=>match cqB r T0 R t q with
   |.inl q'=>.inl q'
   |.inr (.inl v)=>.inr (.inl (v.1.1,v.1.2,v.2))
   |.inr (.inr M)=>.inr (.inr M)) (fun q=>.inr q.1) (fun i q=>q.2=(i:Int)) ([],0) (by omega) rfl rfl ?_ ?_ ?_
  ·rintro i t ⟨M,j⟩ hi ht hj
   simp only at hj;subst hj;obtain⟨t1,t2⟩:=h.t t (List.mem_of_getElem? ht);refine⟨?_,fun s' hs=>?_⟩
   ·simp(disch:=omega)only[Ya,Zt,Int.toNat_natCast,getD_some ht,Zz,l17 hF hr (show t.length≤300 by omega) (fun x hx=>Nat.le_trans (t2 x hx) (by decide)),Option.bind_some,hT0];unfold cqB;by_cases g1:tmE r t=0
    ·simp only[g1,decide_true,Bool.not_true,cond_false,if_true];refine Yy t (fun(q:List (ByteArray×Bool)×Bool) i=>(q.1,q.2,(i:Int))) (fun x q=>.inl (if hasB T0 x=true then q else(mput strEq x true q.1,q.2|| !hasB R x))) (fun q=>q) (fun _ _=>True) (M,false) (by omega) rfl trivial ?_ ?_ ?_
     ·rintro k x ⟨M2,u⟩ hk hx _
      refine⟨?_,fun _ _=>trivial⟩;simp(disch:=omega)only[Ya,Zt,Int.toNat_natCast,getD_some hx,Zz,hT0,l47 hF (show T0.length≤300 by omega),l47 hF (show R.length≤300 by omega),Option.bind_some];cases hasB T0 x
      ·cases u
       ·cases hasB R x<;>rfl
       ·rfl
      ·rfl
     ·rintro ⟨M2,u⟩ _
      simp(disch:=omega)only[Z9]
     ·rw[Wm (fun(q:List (ByteArray×Bool)×Bool) (x:ByteArray)=>if hasB T0 x=true then q else(mput strEq x true q.1,q.2|| !hasB R x)),Qu3];simp only[l27,e2,Option.bind_some,Bool.false_or];have hk:=Qer (Z8 T0 t) M;have hlen:((Z8 T0 t).foldl (fun M x=>mput strEq x true M) M).length=((Z8 T0 t).foldl Z5 (M.map (·.1))).length:=by rw[←hk,List.length_map]
      unfold Kg;by_cases g2:(Z8 T0 t).any (fun s=>!hasB R s)=true
      ·simp[g2,Zd]
      ·by_cases g3:2<((Z8 T0 t).foldl Z5 (M.map (·.1))).length
       ·have g3':(2:Int)<((Z8 T0 t).foldl (fun M x=>mput strEq x true M) M).length:=by omega
        simp[g2,g3,g3',Zd]
       ·have g3':¬(2:Int)<((Z8 T0 t).foldl (fun M x=>mput strEq x true M) M).length:=by omega
        simp[g2,g3,g3',Zd]
    ·simp only[g1,decide_false,Bool.not_false,cond_true,if_false]
   ·unfold cqB at hs;by_cases g1:tmE r t=0
    ·by_cases g2:Kg T0 R (M.map (·.1)) t=0
     ·simp only[g1,g2,if_true,Sum.inl.injEq]at hs;subst hs;show(i:Int)+1=_;omega
     ·simp only[g1,g2,if_true,if_false]at hs;cases hs
    ·simp only[g1,if_false]at hs;cases hs
  ·intro q _;simp(disch:=omega)only[Z9]
  ·have key:∀(l:List (List ByteArray)) (q:Cq),goL (fun t q=>match cqB r T0 R t q with
     |.inl q'=>(.inl q':Cq ⊕ (List (ByteArray×Bool)×Int×Int ⊕ List (ByteArray×Bool)))
     |.inr (.inl v)=>.inr (.inl (v.1.1,v.1.2,v.2))
     |.inr (.inr M)=>.inr (.inr M)) (fun q=>.inr q.1) l q=(match goL (cqB r T0 R) (fun q=>(.inr q.1:Cq×Int ⊕ List (ByteArray×Bool))) l q with
      |.inl v=>.inl (v.1.1,v.1.2,v.2)
      |.inr M=>.inr M):=by
    intro l;induction l with
    |nil=>intro q;rfl
    |cons t l ih=>
     intro q;rw[Wh,Wh];cases hc:cqB r T0 R t q with
     |inl q'=>exact ih q'
     |inr v=>cases v<;>rfl
   rw[key];have hg:=Qrq r T0 R ts ([],0);simp only[List.map_nil]at hg;rw[←hg];cases goL (cqB r T0 R) (fun q=>(.inr q.1:Cq×Int ⊕ List (ByteArray×Bool))) ts ([],0)<;>rfl
 ·simp only[h0,decide_false,Bool.not_false,cond_true,if_false]
abbrev Oq:=List ByteArray×Int
def inB(T0 R:List ByteArray)(i:Int)(x:ByteArray)(O:List ByteArray):List ByteArray ⊕ (List ByteArray×Int×Int ⊕ List ByteArray):=
 if hasB T0 x=true then .inl O else if hasB R x=true then .inl (Z5 O x)else .inr (.inl (O,i,10))
def inG(T0 R:List ByteArray)(i:Int)(t O:List ByteArray):List ByteArray×Int×Int ⊕ List ByteArray:=goL (inB T0 R i) (fun O=>.inr O) t O
theorem Qno(T0 R:List ByteArray)(i:Int):∀(t O:List ByteArray),((Z8 T0 t).any (fun s=>!hasB R s)=true→∃O',inG T0 R i t O=.inl (O',i,10))∧((Z8 T0 t).any (fun s=>!hasB R s)=false→inG T0 R i t O=.inr ((Z8 T0 t).foldl Z5 O))
 |[],O=>⟨fun h=>by simp[Z8]at h,fun _=>rfl⟩
 |x::t,O=>by
  unfold inG Z8;rw[Wh,List.filter_cons];unfold inB;cases h0:hasB T0 x
  ·cases hR:hasB R x
   ·simp[hR]
   ·have ih:=Qno T0 R i t (Z5 O x);unfold inG Z8 inB at ih;simpa[hR]using ih
  ·have ih:=Qno T0 R i t O;unfold inG Z8 inB at ih;simpa using ih
def oqB(r:Rl)(T0 R:List ByteArray)(t:List ByteArray)(q:Oq):Oq ⊕ (List ByteArray×Int×Int ⊕ List ByteArray):=
 if tmE r t=0 then(match inG T0 R q.2 t q.1 with
  |.inl v=>.inr (.inl v)
  |.inr O=>if 2<O.length then .inr (.inl (O,q.2,18))else .inl (O,q.2+1))else .inr (.inl (q.1,q.2,tmE r t))
theorem Qv4(r:Rl)(T0 R:List ByteArray):∀(ts:List (List ByteArray)) (q:Oq),(match goL (oqB r T0 R) (fun q=>(.inr q.1:List ByteArray×Int×Int ⊕ List ByteArray)) ts q with
  |.inl v=>(v.2.1,v.2.2)
  |.inr _=>((0:Int),(0:Int)))=ctL r T0 R ts q.2 q.1
 |[],q=>rfl
 |t::ts,q=>by
  rw[Wh,ctL];unfold oqB Kg;obtain⟨s1,s2⟩:=Qno T0 R q.2 t q.1;by_cases h1:tmE r t=0
  ·by_cases h2:(Z8 T0 t).any (fun s=>!hasB R s)=true
   ·obtain⟨O',h3⟩:=s1 h2;simp[h1,h2,h3]
   ·have h2':(Z8 T0 t).any (fun s=>!hasB R s)=false:=by simpa using h2
    have h3:=s2 h2';by_cases h4:2<((Z8 T0 t).foldl Z5 q.1).length
    ·simp[h1,h2',h3,h4]
    ·simp only[h1,h2',h3,h4,if_true,if_false,Bool.false_eq_true];exact Qv4 r T0 R ts ((Z8 T0 t).foldl Z5 q.1,q.2+1)
  ·simp only[h1,if_false]
theorem Qvn{r:Rl}(hr:rlE r=0)(t:List ByteArray):Zd [if(t.length:Int)=r.1.length then 0 else 2,Xn t]=tmE r t:=by unfold tmE;rw[hr];rfl
theorem l20{F:Nat}(hF:400≤F){r:Rl}(hr0:rlE r=0){ts:List (List ByteArray)}{R:List ByteArray}(h:Qfn ts R):c20 F (r,ts,R)=some (ctE r ts R):=by
 have hn:=h.n;have hR:=h.r;have e:∀y:ByteArray,y::nilT ByteArray=[y]:=fun _=>rfl;unfold c20 ctE Vs;rw[hr0];by_cases q1:ts.length=0
 ·have:(ts.length:Int)=0:=by omega
  simp[q1,this,Zd]
 ·have q1':¬(ts.length:Int)=0:=by omega
  by_cases q2:8<ts.length
  ·have q2':(8:Int)<ts.length:=by omega
   simp[q1,q1',q2,q2',Zd]
  ·have q2':¬(8:Int)<ts.length:=by omega
   by_cases q3:16<R.length
   ·have q3':(16:Int)<R.length:=by omega
    simp[q1,q1',q2,q2',q3,q3',Zd]
   ·have q3':¬(16:Int)<R.length:=by omega
    simp only[q1,q1',q2,q2',q3,q3',decide_false,cond_false,Option.bind_some,l44 hF (show R.length≤300 by omega),if_false];have hf:Zd [0,0,0,0,Xn R]=Xn R:=by by_cases q:Xn R=0<;>simp[Zd,q]
    rw[hf];by_cases h0:Xn R=0
    ·have hpos:0<ts.length:=by omega
     simp only[h0,decide_true,Bool.not_true,cond_false,if_true];generalize hT0:ts.getD 0 (nilT ByteArray)=T0;have hT0m:T0∈ts:=by
      have:ts[0]? =some T0:=by rw[List.getD_eq_getElem?_getD,List.getElem?_eq_getElem hpos]at hT0;rw[List.getElem?_eq_getElem hpos];exact congrArg some hT0
      exact List.mem_of_getElem? this
     have hT0l:=(h.t T0 hT0m).1;refine Yy ts (fun(q:Oq) i=>(q.1,(i:Int))) (oqB r T0 R) (fun q=>.inr q.1) (fun i q=>q.2=(i:Int)∧q.1.length≤2) ([],0) (by omega) rfl ⟨rfl,by simp⟩ ?_ ?_ ?_
     ·rintro i t ⟨O,j⟩ hi ht ⟨hj,hO⟩
      simp only at hj hO;subst hj;obtain⟨t1,t2⟩:=h.t t (List.mem_of_getElem? ht);refine⟨?_,fun s' hs=>?_⟩
      ·simp(disch:=omega)only[Ya,Zt,Int.toNat_natCast,getD_some ht,Zz,V8,l16 hF (show t.length≤300 by omega),Option.bind_some,hT0,Qvn hr0,decide_true,Bool.and_self,Bool.and_true,Y6];unfold oqB;by_cases g1:tmE r t=0
       ·simp only[g1,decide_true,Bool.not_true,cond_false,if_true];refine Yy t (fun(O:List ByteArray) k=>(O,(k:Int))) (inB T0 R (i:Int)) (fun O=>.inr O) (fun k O=>O.length≤2+k) O (by omega) rfl (by omega) ?_ ?_ ?_
        ·intro k x O2 hk hx hO2;have hl2:(O2++[x]).length=O2.length+1:=by simp
         refine⟨?_,fun s' hs=>?_⟩
         ·simp(disch:=omega)only[Ya,Zt,Int.toNat_natCast,getD_some hx,Zz,hT0,e,l49 hF (show T0.length≤300 by omega),l49 hF (show R.length≤300 by omega),l49 hF (show O2.length≤300 by omega),Nat.zero_add,Nat.le_refl,Qvi,decide_true,Bool.and_self,Bool.and_true,Y6,Option.bind_some];unfold inB Z5;cases hasB T0 x
          ·cases hasB R x
           ·rfl
           ·cases hasB O2 x
            ·simp(disch:=omega)only[Zt,hl2,decide_true,Bool.and_self,Bool.and_true,Y6,Option.bind_some,Bool.not_false,Bool.not_true,cond_true,cond_false,Bool.false_eq_true,if_false,if_true,Sum.elim_inl];rfl
            ·simp only[Bool.not_true,cond_false,Y6,Option.bind_some,Bool.false_eq_true,if_false,if_true,Sum.elim_inl];rfl
          ·simp only[cond_true,Y6,Option.bind_some,if_true,Sum.elim_inl];rfl
         ·unfold inB at hs;have hU:=Qu6 O2 x;cases g2:hasB T0 x
          ·cases g3:hasB R x
           ·simp[g2,g3]at hs
           ·simp only[g2,g3,Bool.false_eq_true,if_false,if_true,Sum.inl.injEq]at hs;subst hs;omega
          ·simp only[g2,if_true,Sum.inl.injEq]at hs;subst hs;omega
        ·intro O2 _;simp(disch:=omega)only[Zt,Z9,decide_true,Bool.and_self,Bool.and_true,Y6,Option.bind_some]
        ·unfold inG;generalize goL (inB T0 R (i:Int)) (fun O=>(.inr O:List ByteArray×Int×Int ⊕ List ByteArray)) t O=G;cases G with
         |inl v=>rfl
         |inr O2=>
          by_cases g2:2<O2.length
          ·have g2':(2:Int)<O2.length:=by omega
           simp[g2,g2']
          ·have g2':¬(2:Int)<O2.length:=by omega
           simp only[Sum.elim_inr,g2,g2',decide_true,decide_false,cond_false,Bool.and_self,Bool.and_true,Y6,Option.bind_some,if_false];rfl
       ·simp only[g1,decide_false,Bool.not_false,cond_true,if_false]
      ·unfold oqB at hs;by_cases g1:tmE r t=0
       ·simp only[g1,if_true]at hs;cases hc:inG T0 R (i:Int) t O with
        |inl v=>simp[hc]at hs
        |inr O2=>
         simp only[hc]at hs;by_cases g2:2<O2.length
         ·simp[g2]at hs
         ·simp only[g2,if_false,Sum.inl.injEq]at hs;subst hs;exact⟨by show(i:Int)+1=_;omega,by show O2.length≤2;omega⟩
       ·simp only[g1,if_false]at hs;cases hs
     ·rintro q _
      simp(disch:=omega)only[Z9,decide_true,Bool.and_self,Bool.and_true,Y6,Option.bind_some]
     ·have hg:=Qv4 r T0 R ts ([],0);rw[←hg];cases goL (oqB r T0 R) (fun q=>(.inr q.1:List ByteArray×Int×Int ⊕ List ByteArray)) ts ([],0)<;>rfl
    ·simp only[h0,decide_false,Bool.not_false,cond_true,if_false]
end Go.Proofs.Tryz
namespace Go.Sx
open Go
def bk(s:ByteArray):List UInt8:=s.data.toList
theorem Qr7{a b:ByteArray}(h:bk a=bk b):a=b:=by cases a;cases b;simp only[bk]at h;simpa using h
theorem Qdo(s:ByteArray):s.toList=bk s:=by rw[ByteArray.toList_eq];rfl
def ltS(a b:ByteArray):Bool:=decide (bk a<bk b)
theorem Zg3(a b:ByteArray):Go.Op.bytesLess a.toList b.toList=ltS a b:=by rw[Qdo,Qdo,Proofs.bytesLess_eq];rfl
theorem Qw7(a:ByteArray):ltS a a=false:=by simp[ltS]
theorem Qi4{a b c:ByteArray}(h:ltS a b=true)(k:ltS b c=true):ltS a c=true:=by simp only[ltS,decide_eq_true_eq]at*;exact List.lt_trans h k
theorem Zms{a b:ByteArray}(h:ltS a b=false)(k:ltS b a=false):a=b:=by simp only[ltS,decide_eq_false_iff_not]at*;exact Qr7 (List.le_antisymm (List.not_lt.1 k) (List.not_lt.1 h))
theorem Za0(a b:ByteArray):(a.toList==b.toList)=decide (a=b):=by
 rw[Qdo,Qdo];by_cases h:a=b
 ·subst h;simp
 ·have:¬bk a=bk b:=fun e=>h (Qr7 e);simp[h,this]
def X2(l:List ByteArray):Prop:=l.Pairwise fun a b=>ltS a b=true
theorem X2.ext{l m:List ByteArray}(hl:X2 l)(hm:X2 m)(h:∀x,x∈l↔x∈m):l=m:=by
 have nd:∀{l:List ByteArray},X2 l→l.Nodup:=fun hl=>hl.imp fun{a b} h e=>by subst e;rw[Qw7]at h;cases h
 refine List.Perm.eq_of_pairwise (le:=fun a b=>ltS a b=true) (fun a b _ _ h1 h2=>?_) hl hm ((List.perm_ext_iff_of_nodup (nd hl) (nd hm)).2 h);have:=Qi4 h1 h2;rw[Qw7]at this;cases this
def Zp(x:ByteArray)(l:List ByteArray):Nat→Nat
 |0=>0
 |n+1=>if(ltS (l.getD n ByteArray.empty) x||decide (l.getD n ByteArray.empty=x))=true then n+1 else Zp x l n
theorem Qkz(x:ByteArray)(l:List ByteArray):∀n,Zp x l n≤n
 |0=>Nat.le_refl _
 |n+1=>by
  unfold Zp;split
  ·exact Nat.le_refl _
  ·exact Nat.le_succ_of_le (Qkz x l n)
theorem Qu7{x:ByteArray}{l:List ByteArray}:∀{n j:Nat},Zp x l n≤j→j<n→ltS (l.getD j ByteArray.empty) x=false∧l.getD j ByteArray.empty≠x
 |0,j,_,h=>by omega
 |n+1,j,h1,h2=>by
  unfold Zp at h1;split at h1
  ·omega
  ·rename_i e;by_cases hj:j=n
   ·subst hj;rw[Bool.not_eq_true,Bool.or_eq_false_iff,decide_eq_false_iff_not]at e;exact e
   ·exact Qu7 h1 (by omega)
theorem Quc{x:ByteArray}{l:List ByteArray}:∀{n:Nat},0<Zp x l n→(ltS (l.getD (Zp x l n-1) ByteArray.empty) x||decide (l.getD (Zp x l n-1) ByteArray.empty=x))=true
 |0,h=>by simp[Zp]at h
 |n+1,h=>by
  unfold Zp at h⊢;split
  ·rename_i e;exact e
  ·rename_i e;rw[if_neg e]at h;exact Quc h
def Ko(l:List ByteArray)(x:ByteArray):List ByteArray:=l.take (Zp x l l.length)++x::l.drop (Zp x l l.length)
theorem Qpy(l:List ByteArray)(x:ByteArray):(Ko l x).Perm (x::l):=by unfold Ko;refine List.perm_middle.trans ?_;rw[List.take_append_drop]
theorem Zbm{l:List ByteArray}{x:ByteArray}(h:X2 l)(hx:x∉l):X2 (Ko l x):=by
 have hle:=Qkz x l l.length;have hhi:∀j,Zp x l l.length≤j→j<l.length→ltS x (l.getD j ByteArray.empty)=true:=fun j h1 h2=>by
  obtain⟨k1,k2⟩:=Qu7 h1 h2;cases e:ltS x (l.getD j ByteArray.empty)with
  |true=>rfl
  |false=>exact absurd (Zms k1 e) k2
 have hlo:∀y∈l.take (Zp x l l.length),ltS y x=true:=fun y hy=>by
  have hp:0<Zp x l l.length:=by
   rcases Nat.eq_zero_or_pos (Zp x l l.length)with h0|h0
   ·rw[h0,List.take_zero]at hy;cases hy
   ·exact h0
  have h1:=Quc hp;have hlt:Zp x l l.length-1<l.length:=by omega
  have hg:l.getD (Zp x l l.length-1) ByteArray.empty=l[Zp x l l.length-1]:=getD_some (List.getElem?_eq_getElem hlt);rw[hg]at h1;have hne:l[Zp x l l.length-1]≠x:=fun e=>hx (e▸List.getElem_mem hlt);rw[decide_eq_false hne,Bool.or_false]at h1;obtain⟨i,hi,rfl⟩:=List.getElem_of_mem hy;rw[List.length_take]at hi;rw[List.getElem_take];by_cases hi2:i=Zp x l l.length-1
  ·subst hi2;exact h1
  ·exact Qi4 (List.pairwise_iff_getElem.1 h i (Zp x l l.length-1) (by omega) hlt (by omega)) h1
 unfold X2 Ko;rw[List.pairwise_append,List.pairwise_cons];refine⟨h.sublist (List.take_sublist _ _),⟨fun y hy=>?_,h.sublist (List.drop_sublist _ _)⟩,fun y hy z hz=>?_⟩
 ·obtain⟨i,hi,rfl⟩:=List.getElem_of_mem hy;rw[List.length_drop]at hi;have:=hhi (Zp x l l.length+i) (by omega) (by omega);rw[getD_some (List.getElem?_eq_getElem (show Zp x l l.length+i<l.length by omega))]at this;rw[List.getElem_drop];exact this
 ·have hyx:=hlo y hy;rcases List.mem_cons.1 hz with rfl|hz
  ·exact hyx
  ·obtain⟨i,hi,rfl⟩:=List.getElem_of_mem hz;rw[List.length_drop]at hi;have:=hhi (Zp x l l.length+i) (by omega) (by omega);rw[getD_some (List.getElem?_eq_getElem (show Zp x l l.length+i<l.length by omega))]at this;rw[List.getElem_drop];exact Qi4 hyx this
theorem Qy7{H:Type}(x:Lit×DataW H):∀l:List (Lit×DataW H),(DataW.insert x l).Perm (x::l)
 |[]=>.refl _
 |y::r=>by
  unfold DataW.insert;split
  ·exact .refl _
  ·exact((Qy7 x r).cons y).trans (.swap x y r)
theorem Qyk{H:Type}:∀l:List (Lit×DataW H),(l.foldr DataW.insert []).Perm l
 |[]=>.refl _
 |x::l=>by rw[List.foldr_cons];exact(Qy7 x _).trans ((Qyk l).cons x)
theorem Zbl(l:List ByteArray):(U5 l).Perm (l.map bk):=by unfold U5;show((List.foldr DataW.insert [] (l.map Uw)).map fun(p:Lit×DataW Unit)=>Go.strOf p.1).Perm _;refine((Qyk _).map _).trans ?_;rw[List.map_map];exact .refl _
theorem Qsn(l:List ByteArray):(Ju l).Perm l:=by
 unfold Ju;have h:=((List.mergeSort_perm (U5 l) Go.leB).trans (Zbl l)).map (fun b:List UInt8=>(⟨b.toArray⟩:ByteArray));rw[List.map_map]at h;have e:((fun b:List UInt8=>(⟨b.toArray⟩:ByteArray))∘bk)=id:=funext fun s=>by cases s;simp[bk]
 rw[e,List.map_id]at h;exact h
theorem Zjn{l:List ByteArray}(h:l.Nodup):X2 (Ju l):=by
 have tr:∀a b c:List UInt8,Go.leB a b=true→Go.leB b c=true→Go.leB a c=true:=fun a b c h1 h2=>by simp only[Go.leB,decide_eq_true_eq]at*;exact List.le_trans h1 h2
 have to:∀a b:List UInt8,(Go.leB a b||Go.leB b a)=true:=fun a b=>by simp only[Go.leB,Bool.or_eq_true,decide_eq_true_eq];exact List.le_total a b
 have h1:=List.pairwise_mergeSort tr to (U5 l);have hnd:(Ju l).Nodup:=(Qsn l).nodup_iff.2 h;unfold Ju at hnd⊢;unfold X2;rw[List.pairwise_map];have hnd':=List.pairwise_map.1 hnd;refine(h1.and hnd').imp fun{a b} ⟨hab,hne⟩=>?_;simp only[Go.leB,decide_eq_true_eq]at hab;show decide (bk ⟨a.toArray⟩<bk ⟨b.toArray⟩)=true;rw[decide_eq_true_eq];show a<b;by_cases hba:b≤a
 ·exact absurd (by rw[List.le_antisymm hab hba]) hne
 ·exact List.not_le.1 hba
end Go.Sx
