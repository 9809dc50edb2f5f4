/- Plain law: Members, by the program and by the reference. Plain law: TrackTeams. And further parts. -/
import Derived.Test.YtebmfbcngojbdaaGreatDoorXT7e
set_option maxRecDepth 100000
set_option linter.unusedVariables false
set_option linter.unusedSimpArgs false
namespace Go.Proofs.Tryz
open Go Go.Sx
theorem Zln{O:List ByteArray}{x y:ByteArray}:y∈Z5 O x↔y∈O∨y=x:=by
 unfold Z5;by_cases h:hasB O x=true
 ·rw[if_pos h];constructor
  ·exact .inl
  ·rintro (h2|rfl)
   ·exact h2
   ·exact Qfe.1 h
 ·rw[if_neg h,List.mem_append,List.mem_singleton]
theorem Zp8{O:List ByteArray}{x:ByteArray}(h:O.Nodup):(Z5 O x).Nodup:=by
 unfold Z5;by_cases hx:hasB O x=true
 ·rw[if_pos hx];exact h
 ·rw[if_neg hx,List.nodup_append];refine⟨h,by simp,fun a ha b hb e=>hx ?_⟩;rw[List.mem_singleton]at hb;subst hb;subst e;exact Qfe.2 ha
theorem Qnx:∀(l O:List ByteArray),O.Nodup→(l.foldl Z5 O).Nodup∧(∀y,y∈l.foldl Z5 O↔y∈O∨y∈l)∧(l.foldl Z5 O).length≤O.length+l.length
 |[],O,h=>⟨h,fun y=>by simp,by simp⟩
 |x::l,O,h=>by obtain⟨h1,h2,h3⟩:=Qnx l (Z5 O x) (Zp8 h);have:=Qu6 O x;refine⟨h1,fun y=>?_,by rw[List.foldl_cons,List.length_cons];omega⟩;rw[List.foldl_cons,h2,Zln,List.mem_cons,or_assoc]
def Yq(l:List ByteArray)(x:ByteArray):List ByteArray:=if hasB l x=true then l else Ko l x
theorem Qlj:∀(l O:List ByteArray),X2 O→X2 (l.foldl Yq O)∧(∀y,y∈l.foldl Yq O↔y∈O∨y∈l)∧(l.foldl Yq O).length≤O.length+l.length
 |[],O,h=>⟨h,fun y=>by simp,by simp⟩
 |x::l,O,h=>by
  have h0:X2 (Yq O x)∧(∀y,y∈Yq O x↔y∈O∨y=x)∧(Yq O x).length≤O.length+1:=by
   unfold Yq;by_cases hx:hasB O x=true
   ·rw[if_pos hx];refine⟨h,fun y=>⟨.inl,?_⟩,by omega⟩
    rintro (h2|rfl)
    ·exact h2
    ·exact Qfe.1 hx
   ·rw[if_neg hx];have hp:=Qpy O x;refine⟨Zbm h fun h2=>hx (Qfe.2 h2),fun y=>?_,by rw[hp.length_eq,List.length_cons];omega⟩;rw[hp.mem_iff,List.mem_cons];exact or_comm
  obtain⟨h1,h2,h3⟩:=Qlj l (Yq O x) h0.1;refine⟨h1,fun y=>?_,by rw[List.foldl_cons,List.length_cons];have:=h0.2.2;omega⟩;rw[List.foldl_cons,h2,h0.2.1,List.mem_cons,or_assoc]
def Ui(ts:List (List ByteArray)):List ByteArray:=ts.flatten.foldl Yq []
theorem Zly{ts:List (List ByteArray)}{i:Nat}{t:List ByteArray}(h:ts[i]? =some t):(ts.take (i+1)).flatten=(ts.take i).flatten++t:=by rw[←Qbm h,List.flatten_append];simp[nilT]
theorem Qtm{ts:List (List ByteArray)}(h:∀t∈ts,t.length≤11):ts.flatten.length≤11*ts.length:=by
 induction ts with
 |nil=>simp
 |cons t ts ih=>have h1:=h t (List.mem_cons_self ..);have h2:=ih fun t ht=>h t (List.mem_cons_of_mem _ ht);rw[List.flatten_cons,List.length_append,List.length_cons];omega
theorem Zbc(ts:List (List ByteArray)){M:List (ByteArray×Bool)}(hM:M.map (·.1)=ts.flatten.foldl Z5 []):skeysM M=Ui ts:=by obtain⟨a1,a2,-⟩:=Qnx ts.flatten [] .nil;obtain⟨b1,b2,-⟩:=Qlj ts.flatten [] .nil;have hk:mkeys M=ts.flatten.foldl Z5 []:=hM;unfold skeysM Ui;rw[hk];refine X2.ext (Zjn a1) b1 fun x=>?_;rw[(Qsn _).mem_iff,a2,b2]
theorem l19{F:Nat}(hF:400≤F){r:Rl}(hr:r.1.length≤11){ts:List (List ByteArray)}{R:List ByteArray}(h:Qfn ts R):c19 F (r,ts,R)=some (if(ctE r ts R).2=0 then(Ui ts,0)else([],(ctE r ts R).2)):=by
 have hn:=h.n;unfold c19;simp only[V8,l18 hF hr h,Option.bind_some];by_cases h0:(ctE r ts R).2=0
 ·simp only[h0,decide_true,Bool.not_true,cond_false,if_true];refine Yy ts (fun(M:List (ByteArray×Bool)) i=>(M,(i:Int))) (fun t M=>.inl (t.foldl (fun M x=>mput strEq x true M) M)) (fun M=>M) (fun i M=>M.map (·.1)=(ts.take i).flatten.foldl Z5 []) [] (by omega) rfl rfl ?_ ?_ ?_
  ·intro i t M hi ht hM;obtain⟨t1,t2⟩:=h.t t (List.mem_of_getElem? ht);refine⟨?_,fun s' hs=>?_⟩
   ·simp(disch:=omega)only[Ya,Zt,Int.toNat_natCast,getD_some ht,Zz];refine Yy t (fun(M:List (ByteArray×Bool)) k=>(M,(k:Int))) (fun x M=>.inl (mput strEq x true M)) (fun M=>M) (fun _ _=>True) M (by omega) rfl trivial ?_ ?_ ?_
    ·intro k x M2 hk hx _;refine⟨?_,fun _ _=>trivial⟩;simp(disch:=omega)only[Ya,Zt,Int.toNat_natCast,getD_some hx,Zz];rfl
    ·intro M2 _;simp(disch:=omega)only[Z9]
    ·rw[Wm (fun(M:List (ByteArray×Bool)) (x:ByteArray)=>mput strEq x true M)];rfl
   ·simp only[Sum.inl.injEq]at hs;subst hs;rw[Qer,hM,Zly ht,List.foldl_append]
  ·intro M _;simp(disch:=omega)only[Z9]
  ·rw[Wm (fun(M:List (ByteArray×Bool)) (t:List ByteArray)=>t.foldl (fun M x=>mput strEq x true M) M)];generalize hMM:ts.foldl (fun(M:List (ByteArray×Bool)) (t:List ByteArray)=>t.foldl (fun M x=>mput strEq x true M) M) []=M;have hM:M.map (·.1)=ts.flatten.foldl Z5 []:=by
    have:∀(l:List (List ByteArray)) (M0:List (ByteArray×Bool)),(l.foldl (fun(M:List (ByteArray×Bool)) (t:List ByteArray)=>t.foldl (fun M x=>mput strEq x true M) M) M0).map (·.1)=l.flatten.foldl Z5 (M0.map (·.1)):=by
     intro l;induction l with
     |nil=>intro M0;rfl
     |cons t l ih=>intro M0;rw[List.foldl_cons,ih,Qer,List.flatten_cons,List.foldl_append]
    rw[←hMM,this];rfl
   obtain⟨a1,a2,a3⟩:=Qnx ts.flatten [] .nil;have hfl:=Qtm fun t ht=>(h.t t ht).1;have hlen:M.length≤121:=by
    have:(M.map (·.1)).length≤121:=by rw[hM];simp only[List.length_nil]at a3;omega
    rwa[List.length_map]at this
   have hfit:keysFit (mkeys M)=true:=by
    have hk:mkeys M=ts.flatten.foldl Z5 []:=hM;unfold keysFit;rw[hk,decide_eq_true a1,Bool.true_and,List.all_eq_true];intro x hx;rcases(a2 x).1 hx with hx|hx
    ·cases hx
    ·obtain⟨t,ht,hxt⟩:=List.mem_flatten.1 hx;have:=(h.t t ht).2 x hxt;exact decide_eq_true (by omega)
   unfold cx48_0;simp only[Zt (show M.length*16≤140737488355328 by omega),Zt hfit,Option.bind_some,Zbc ts hM]
 ·simp only[h0,decide_false,Bool.not_false,cond_true,if_false];rfl
theorem Qut{step:Int→Option (Int ⊕ Int)}{x:ByteArray}{l:List ByteArray}
  (hgo:∀n:Nat,n<l.length→step ((n:Int)+1)=some (if(ltS (l.getD n ByteArray.empty) x||decide (l.getD n ByteArray.empty=x))=true then .inr ((n:Int)+1)else .inl (n:Int)))
  (h0:step 0=some (.inr 0)):∀(n F:Nat),n≤l.length→n<F→Zb step F (n:Int)=some (Zp x l n:Int)
 |0,F+1,_,_=>by show Zb step (F+1) 0=_;simp only[Zb,h0];rfl
 |n+1,F+1,hn,hF=>by
  have h1:=hgo n (by omega);have e:((n+1:Nat):Int)=(n:Int)+1:=by omega
  rw[e];unfold Zp;by_cases c:(ltS (l.getD n ByteArray.empty) x||decide (l.getD n ByteArray.empty=x))=true
  ·rw[if_pos c]at h1;simp only[Zb,h1,if_pos c];rfl
  ·rw[if_neg c]at h1;simp only[Zb,h1,if_neg c];exact Qut hgo h0 n F (by omega) (by omega)
theorem Qtl(l:List ByteArray)(x:ByteArray):(Yq l x).length≤l.length+1:=by
 unfold Yq;split
 ·omega
 ·rw[(Qpy l x).length_eq];simp
theorem Qym:∀(t O:List ByteArray),(t.foldl Yq O).length≤O.length+t.length
 |[],O=>Nat.le_refl _
 |x::t,O=>by have h1:=Qym t (Yq O x);have h2:=Qtl O x;rw[List.foldl_cons,List.length_cons];omega
theorem l21{F:Nat}(hF:400≤F){ts:List (List ByteArray)}(hn:ts.length≤11)(ht:∀t∈ts,t.length≤11):c21 F ts=some (Ui ts):=by
 have e:∀y:ByteArray,y::nilT ByteArray=[y]:=fun _=>rfl;unfold c21;refine Yy ts (fun(O:List ByteArray) i=>(O,(i:Int))) (fun t O=>.inl (t.foldl Yq O)) (fun O=>O) (fun i O=>O.length≤11*i) [] (by omega) rfl (by simp) ?_ ?_ ?_
 ·intro i t O hi hti hO;have t1:=ht t (List.mem_of_getElem? hti);refine⟨?_,fun s' hs=>?_⟩
  ·simp(disch:=omega)only[Ya,Zt,Int.toNat_natCast,getD_some hti,Zz];refine Yy t (fun(O:List ByteArray) k=>(O,(k:Int))) (fun x O=>.inl (Yq O x)) (fun O=>O) (fun k O=>O.length≤11*i+k) O (by omega) rfl (by omega) ?_ ?_ ?_
   ·intro k x out hk hx ho;have hp:=(Qpy out x).length_eq;rw[List.length_cons]at hp;refine⟨?_,fun s' hs=>?_⟩
    ·simp(disch:=omega)only[Ya,Zt,Int.toNat_natCast,Nat.zero_add,getD_some hx,getD_some hti,Zz,l49 hF (show out.length≤300 by omega),Option.bind_some];unfold Yq;cases hh:hasB out x
     ·simp only[cond_false,Bool.false_eq_true,if_false];rw[Qut (x:=x) (l:=out) ?_ ?_ out.length F (Nat.le_refl _) (by omega)]
      ·have hpl:=Qkz x out out.length;have q1:((out.take (Zp x out out.length)).length)=Zp x out out.length:=Qmu hpl;have q2:(nilT ByteArray++List.drop 0 (out.take (Zp x out out.length)))=out.take (Zp x out out.length):=by rw[List.drop_zero];rfl
       have q3:(out.take (Zp x out out.length)++[x]).length=Zp x out out.length+1:=by rw[List.length_append,q1];rfl
       have q4:out.take (Zp x out out.length)++[x]++out.drop (Zp x out out.length)=Ko out x:=by unfold Ko;simp
       simp(disch:=omega)only[Zt,Int.toNat_natCast,e,q2,q1,q3,List.take_length,q4,hp,Option.bind_some,decide_true,Bool.and_self,Bool.and_true,Y6];rw[←hp,Qvi];simp[hp,Y6]
      ·intro n hn;simp(disch:=omega)only[Ya,Zt,Zz,show(n:Int)+1-1=(n:Int)by omega,Int.toNat_natCast,Zg3,Za0,Option.bind_some];cases(ltS (out.getD n ByteArray.empty) x||decide (out.getD n ByteArray.empty=x))<;>rfl
      ·simp(disch:=omega)only[Z9,Option.bind_some,cond_false]
     ·simp only[cond_true,if_true];rfl
    ·simp only[Sum.inl.injEq]at hs;subst hs;have:=Qtl out x;omega
   ·intro out ho;simp(disch:=omega)only[Zt,Z9]
   ·rw[Wm Yq];rfl
  ·simp only[Sum.inl.injEq]at hs;subst hs;have:=Qym t O;omega
 ·intro O _;simp(disch:=omega)only[Z9]
 ·rw[Wm (fun(O:List ByteArray) (t:List ByteArray)=>t.foldl Yq O)];have:∀(l:List (List ByteArray)) (O:List ByteArray),l.foldl (fun(O:List ByteArray) (t:List ByteArray)=>t.foldl Yq O) O=l.flatten.foldl Yq O:=by
   intro l;induction l with
   |nil=>intro O;rfl
   |cons t l ih=>intro O;rw[List.foldl_cons,ih,List.flatten_cons,List.foldl_append]
  rw[this];rfl
theorem l14{F:Nat}{l:List ByteArray}(hF:l.length<F)(hl:l.length≤100000000000000){n:Nat}(hn:n≤100):∃b,c14 F (l,(n:Int))=some b∧(b=true→l.length≤n∧∀x∈l,x.size≤60):=by
 unfold c14;by_cases h0:(n:Int)<l.length
 ·simp only[h0,decide_true,cond_true];exact⟨false,rfl,fun h=>by cases h⟩
 ·simp only[h0,decide_false,cond_false];refine Qux l (fun a=>a.size≤60) (fun b:Bool ⊕ Unit=>b=.inl false∨(b=.inr ()∧∀x∈l,x.size≤60)) hF ?_ ?_ ?_
  ·intro i x hi hx;simp(disch:=omega)only[Ya,Zt,Int.toNat_natCast,getD_some hx,Zz];by_cases q:(60:Int)<x.size
   ·exact⟨_,by simp only[q,decide_true,cond_true],.inr ⟨_,rfl,.inl rfl⟩⟩
   ·exact⟨_,by simp only[q,decide_false,cond_false],.inl ⟨rfl,by omega⟩⟩
  ·intro h;exact⟨_,by simp(disch:=omega)only[Z9],.inr ⟨rfl,h⟩⟩
  ·rintro b (rfl|⟨rfl,h⟩)
   ·exact⟨false,rfl,fun h=>by cases h⟩
   ·exact⟨true,rfl,fun _=>⟨by omega,h⟩⟩
theorem l13{F:Nat}{ts:List (List ByteArray)}(hF:ts.length<F)(hl:ts.length≤100000000000000)(hT:∀t∈ts,t.length<F∧t.length≤100000000000000):∃b,c13 F ts=some b∧(b=true→ts.length≤11∧∀t∈ts,t.length≤11∧∀x∈t,x.size≤60):=by
 unfold c13;by_cases h0:(11:Int)<ts.length
 ·simp only[h0,decide_true,cond_true];exact⟨false,rfl,fun h=>by cases h⟩
 ·simp only[h0,decide_false,cond_false];refine Qux ts (fun t=>t.length≤11∧∀x∈t,x.size≤60) (fun b:Bool ⊕ Unit=>b=.inl false∨(b=.inr ()∧∀t∈ts,t.length≤11∧∀x∈t,x.size≤60)) hF ?_ ?_ ?_
  ·intro i t hi ht;obtain⟨t1,t2⟩:=hT t (List.mem_of_getElem? ht);obtain⟨b,h1,h2⟩:=l14 (F:=F) (l:=t) t1 t2 (n:=11) (by decide);have h1:c14 F (t,11)=some b:=h1;simp(disch:=omega)only[Ya,Zt,Int.toNat_natCast,getD_some ht,Zz,h1,Option.bind_some];cases b with
   |true=>exact⟨_,rfl,.inl ⟨rfl,h2 rfl⟩⟩
   |false=>exact⟨_,rfl,.inr ⟨_,rfl,.inl rfl⟩⟩
  ·intro h;exact⟨_,by simp(disch:=omega)only[Z9],.inr ⟨rfl,h⟩⟩
  ·rintro b (rfl|⟨rfl,h⟩)
   ·exact⟨false,rfl,fun h=>by cases h⟩
   ·exact⟨true,rfl,fun _=>⟨by omega,h⟩⟩
theorem l22{F:Nat}{l:List ByteArray}(hF:l.length<F)(hl:l.length≤100000):c22 F (l,l)=some true:=by
 unfold c22;simp only[decide_true,Bool.not_true,cond_false];refine Yy l (fun(_:Unit) i=>(i:Int)) (fun _ _=>(.inl ():Unit ⊕ (Bool ⊕ Unit))) (fun _=>.inr ()) (fun _ _=>True) () hF rfl trivial ?_ ?_ ?_
 ·intro i x _ hi hx _;refine⟨?_,fun _ _=>trivial⟩;simp(disch:=omega)only[Ya,Zt,Int.toNat_natCast,getD_some hx,Zz,Qm4,Bool.not_true,cond_false];rfl
 ·intro _ _;simp(disch:=omega)only[Z9]
 ·rw[Qq2];rfl
theorem Zep{r:Rl}{ts:List (List ByteArray)}{R:List ByteArray}(h:¬rlE r=0):ctE r ts R=(0,rlE r):=by
 have:Vs r ts R=rlE r:=by unfold Vs;simp[Zd,h]
 unfold ctE;rw[this,if_neg h]
def Qfh(ts:List (List ByteArray)):Nat:=ts.foldr (fun t n=>t.length+n) 0
theorem Zmb{ts:List (List ByteArray)}:∀t∈ts,t.length≤Qfh ts:=by
 induction ts with
 |nil=>exact fun t h=>by cases h
 |cons x ts ih=>
  intro t h;show t.length≤x.length+Qfh ts;rcases List.mem_cons.1 h with rfl|h
  ·omega
  ·have:=ih t h;omega
theorem Zqk(a:Rl×List (List ByteArray)×List ByteArray)(hok:Q8.ok [.agg [.seq [.int .i64],.int .i64,.int .i64],.val (.seq [.seq [.str]]),.val (.seq [.str])] a):∃F,c4 F a=some true:=by
 obtain⟨r,ts,R⟩:=a;obtain⟨k1,k2,k3⟩:=hok;have hR:R.length*16≤140737488351232:=k3.1;have hT:ts.length*24≤140737488351232:=k2.1;have hTs:∀t∈ts,t.length*16≤140737488351232:=fun t ht=>(k2.2 t ht).1;refine⟨ts.length+R.length+Qfh ts+1000,?_⟩;generalize hFF:ts.length+R.length+Qfh ts+1000=F;have hF:400≤F:=by omega
 have hF1:ts.length<F:=by omega
 have hF2:R.length<F:=by omega
 have hF3:∀t∈ts,t.length<F:=fun t ht=>by have:=Zmb t ht;omega
 clear hFF;obtain⟨b1,g1,g1'⟩:=l13 (F:=F) hF1 (by omega) (fun t ht=>⟨hF3 t ht,by have:=hTs t ht;omega⟩);obtain⟨b2,g2,g2'⟩:=l14 (F:=F) hF2 (by omega) (n:=20) (by decide);have g2:c14 F (R,20)=some b2:=g2;unfold c4;by_cases hl:(r.1.length:Int)≤11
 ·simp only[hl,decide_true,Bool.not_true,cond_false,g1,g2,Option.bind_some,V8];cases b1 with
  |false=>rfl
  |true=>
   cases b2 with
   |false=>rfl
   |true=>
    obtain⟨t1,t2⟩:=g1' rfl;obtain⟨t3,t4⟩:=g2' rfl;have hr:r.1.length≤11:=by omega
    have hS:Qfn ts R:=⟨t1,t2,t3,t4⟩;simp only[Bool.not_true,cond_false,Option.bind_some,l15 hF hr];refine Yy ts (fun(_:Unit) i=>(i:Int)) (fun _ _=>(.inl ():Unit ⊕ (Bool ⊕ Unit))) (fun _=>.inr ()) (fun _ _=>True) () hF1 rfl trivial ?_ ?_ ?_
    ·intro i t _ hi ht _;obtain⟨q1,q2⟩:=t2 t (List.mem_of_getElem? ht);refine⟨?_,fun _ _=>trivial⟩;simp(disch:=omega)only[Ya,Zt,Int.toNat_natCast,getD_some ht,Zz,V8,l16 hF (show t.length≤300 by omega),l17 hF hr (show t.length≤300 by omega) (fun x hx=>Nat.le_trans (q2 x hx) (by decide)),Option.bind_some];by_cases h0:rlE r=0
     ·simp only[h0,decide_true,cond_true,Qvn h0,Option.bind_some,Bool.not_true,cond_false];rfl
     ·have:tmE r t=rlE r:=by unfold tmE;simp[Zd,h0]
      simp only[h0,decide_false,cond_false,this,Option.bind_some,decide_true,Bool.not_true];rfl
    ·intro _ _;simp(disch:=omega)only[Z9]
    ·rw[Qq2];have e22:c22 F ([],nilT ByteArray)=some true:=l22 (by simp;omega) (by simp);simp only[Sum.elim_inr,l18 hF hr hS,l19 hF hr hS,Option.bind_some];by_cases h0:rlE r=0
     ·simp only[h0,decide_true,cond_true,l20 hF h0 hS,Option.bind_some];have hfl:=Qtm fun t ht=>(t2 t ht).1;obtain⟨-,-,m3⟩:=Qlj ts.flatten [] .nil;have hml:(Ui ts).length≤121:=by unfold Ui;simp only[List.length_nil]at m3;omega
      by_cases h1:(ctE r ts R).2=0
      ·simp only[h1,decide_true,cond_true,if_true,l21 hF t1 (fun t ht=>(t2 t ht).1),Option.bind_some,l22 (F:=F) (l:=Ui ts) (by omega) (by omega)]
      ·simp only[h1,decide_true,decide_false,cond_true,cond_false,if_false,Option.bind_some,e22]
     ·have hb:=Zep (ts:=ts) (R:=R) h0;simp only[h0,hb,decide_true,decide_false,cond_true,cond_false,if_false,Option.bind_some,e22]
 ·simp only[hl,decide_false,Bool.not_false,cond_true,Option.bind_some]
end Go.Proofs.Tryz
