/- Plain law: EntryReplays. -/
import Derived.Test.YtpkbmngnolhopaaGreatDoorXTeR2
set_option maxRecDepth 100000
set_option linter.unusedVariables false
set_option linter.unusedSimpArgs false
namespace Go.Proofs.Tryz
open Go Go.Sx
abbrev atL:Qf:=.val (.seq [.int .i64,.str,.str,.str,.str,.str,.int .i64,.int .i64,.str,.int .i64,.str,.seq Zz])
theorem okL{l:List Ys}(h:Qf.ok atL l):l.length*168≤140737488351232∧∀a∈l,a.2.2.2.2.2.2.2.2.2.2.2.length*16≤140737488351232:=by obtain⟨h1,h2⟩:=h;refine⟨h1,fun a ha=>?_⟩;exact(h2 a ha).2.2.2.2.2.2.2.2.2.2.2.1
theorem l27{F:Nat}{l:List Ys}(hF:l.length<F)(hb:l.length*168≤140737488355328):c27 F l=some l:=by
 have e:∀y:Ys,y::Qa Ys=[y]:=fun _=>rfl;have hd:((0:Int),ByteArray.empty,ByteArray.empty,ByteArray.empty,ByteArray.empty,ByteArray.empty,(0:Int),(0:Int),ByteArray.empty,(0:Int),ByteArray.empty,Qa ByteArray)=dA3:=rfl;unfold c27;simp only[hd];refine Xr l (fun out i=>(out,(i:Int))) (fun x out=>.inl (out++[x])) (fun out=>out) (fun i out=>out.length=i) (Qa Ys) hF rfl rfl ?_ ?_ ?_
 ·intro i x out hi hx ho;have hl2:(out++[x]).length=i+1:=by simp[ho]
  refine⟨?_,fun s' hs=>?_⟩
  ·simp(disch:=omega)only[Z7,Zc,Int.toNat_natCast,getD_some hx,Z0,Zh,e,hl2,ho,decide_true,Bool.and_self,Bool.true_and,Za,Option.bind_some];rfl
  ·simp only[Sum.inl.injEq]at hs;subst hs;exact hl2
 ·intro out ho;simp(disch:=omega)only[Z8,ho,decide_true,Bool.and_self,Bool.true_and,Za,Option.bind_some]
 ·rw[Qd2 (fun x:Ys=>x)];simp[Qa,Za]
theorem l35{F:Nat}{l:List (Int×Int)}(hF:l.length<F)(hb:l.length≤1000):c35 F l=some l:=by
 have e:∀y:Int×Int,y::Qa (Int×Int)=[y]:=fun _=>rfl;unfold c35;refine Xr l (fun out i=>(out,(i:Int))) (fun x out=>.inl (out++[x])) (fun out=>out) (fun i out=>out.length=i) (Qa (Int×Int)) hF rfl rfl ?_ ?_ ?_
 ·intro i x out hi hx ho;have hl2:(out++[x]).length=i+1:=by simp[ho]
  refine⟨?_,fun s' hs=>?_⟩
  ·simp(disch:=omega)only[Z7,Zc,Int.toNat_natCast,getD_some hx,Z0,Zh,e,hl2,ho,decide_true,Bool.and_self,Bool.true_and,Za,Option.bind_some];rfl
  ·simp only[Sum.inl.injEq]at hs;subst hs;exact hl2
 ·intro out ho;simp(disch:=omega)only[Z8,ho,decide_true,Bool.and_self,Bool.true_and,Za,Option.bind_some]
 ·rw[Qd2 (fun x:Int×Int=>x)];simp[Qa,Za]
theorem l34{F:Nat}{l:List (Int×Int)}(hF:l.length<F)(hl:l.length≤100000):c34 F (l,l)=some true:=by
 unfold c34;simp only[decide_true,Bool.not_true,cond_false];refine Xr l (fun(_:Unit) i=>(i:Int)) (fun _ _=>(.inl ():Unit ⊕ (Bool ⊕ Unit))) (fun _=>.inr ()) (fun _ _=>True) () hF rfl trivial ?_ ?_ ?_
 ·intro i x _ hi hx _;refine⟨?_,fun _ _=>trivial⟩;simp(disch:=omega)only[Z7,Zc,Int.toNat_natCast,getD_some hx,Z0,decide_true,Bool.and_self,Bool.not_true,cond_false];rfl
 ·intro _ _;simp(disch:=omega)only[Z8]
 ·rw[Qf9];rfl
structure ShL (n:Nat) (l:List Ys):Prop where
 n:l.length≤n∨(256<l.length∧l.length≤259)
 s:∀a∈l,Zt (a.1,a.2.2)
theorem l28{F:Nat}(hF:400≤F){l:List Ys}(hl:l.length<F)(hb:l.length*168≤140737488355328){n:Nat}(hn:n≤256):∃b,c28 F (l,(n:Int))=some b∧(b=true→ShL n l):=by
 have hd:((0:Int),ByteArray.empty,ByteArray.empty,ByteArray.empty,ByteArray.empty,ByteArray.empty,(0:Int),(0:Int),ByteArray.empty,(0:Int),ByteArray.empty,Qa ByteArray)=dA3:=rfl;unfold c28;simp only[hd];rw[l78 F _ _ _ (by omega)];by_cases h0:(l.length:Int)≤(n:Int)∨(256:Int)<l.length∧(l.length:Int)≤256+3
 ·simp only[h0,decide_true,Bool.not_true,cond_false,Option.bind_some];refine Qr9 l (fun a=>Zt (a.1,a.2.2)) (fun b:Bool ⊕ Unit=>b=.inl false∨(b=.inr ()∧∀x∈l,Zt (x.1,x.2.2))) hl ?_ ?_ ?_
  ·intro i x hi hx;obtain⟨b,h1,h2⟩:=l19 hF x;simp(disch:=omega)only[Z7,Zc,Int.toNat_natCast,getD_some hx,Z0,Zh,h1,Option.bind_some];cases b with
   |true=>exact⟨_,rfl,.inl ⟨rfl,h2 rfl⟩⟩
   |false=>exact⟨_,rfl,.inr ⟨_,rfl,.inl rfl⟩⟩
  ·intro h;exact⟨_,by simp(disch:=omega)only[Z8],.inr ⟨rfl,h⟩⟩
  ·rintro b (rfl|⟨rfl,h⟩)
   ·exact⟨false,rfl,fun h=>by cases h⟩
   ·exact⟨true,rfl,fun _=>⟨by omega,h⟩⟩
 ·simp only[h0,decide_false,Bool.not_false,cond_true,Option.bind_some];exact⟨false,rfl,fun h=>by cases h⟩
theorem ShL.len{n:Nat}{l:List Ys}(h:ShL n l)(hn:n≤256):l.length≤300:=by rcases h.n with h|h<;>omega
theorem Yg6{n:Nat}{s:Qo}(h:GrS n s)(hn:n≤256):Qjn s:=
 ⟨Nat.le_trans h.c hn,Nat.le_trans h.a hn,Nat.le_trans h.l hn,Nat.le_trans h.e hn,Nat.le_trans h.t hn⟩
def Qbi(m:Mt)(l:List Ys):Nat:=m.2.2.2.2.length+l.length+100000
theorem Zuj(a:Mt×List Ys)(hok:Qt.ok [atM,atL] a):∃F,c4 F a=some true:=by
 obtain⟨m,l⟩:=a;obtain⟨k1,k2⟩:=hok;have hmb:m.2.2.2.2.length*128≤140737488355328:=okM k1;have hlb:l.length*168≤140737488351232:=(okL k2).1;refine⟨Qbi m l,?_⟩;have r1:100000≤Qbi m l:=by unfold Qbi;omega
 have r2:m.2.2.2.2.length<Qbi m l:=by unfold Qbi;omega
 have r3:l.length<Qbi m l:=by unfold Qbi;omega
 generalize Qbi m l=F at r1 r2 r3;have hF4:400≤F:=by omega
 have hF7:700≤F:=by omega
 obtain⟨b1,h1,h1'⟩:=l17 r2 hmb;obtain⟨b2,h2,h2'⟩:=l28 hF4 r3 (by omega) (n:=24) (by decide);have h2:c28 F (l,24)=some b2:=h2;unfold c4;simp only[Zh,l15 r2 hmb,l27 r3 (show l.length*168≤140737488355328 by omega),h1,h2,Option.bind_some];cases b1 with
 |false=>rfl
 |true=>
  cases b2 with
  |false=>rfl
  |true=>
   have hM:=h1' rfl;have hL:=h2' rfl;have hlen:=hL.len (by decide);have e2:∀a b,c30 F (a::b::Qa Int)=some (Qp [a,b]):=fun a b=>l30 (by simp[Qa];omega) (by simp[Qa]);simp only[Bool.not_true,cond_false,Option.bind_some,l29 hF7 hM.len hM.bd hlen hL.s,l22 hF4 hM.len,l31 hF7 hlen hL.s,e2];by_cases h0:Qp [Ye m,if 256<l.length then 5 else Qp (l.map Xi)]=0
   ·have hv:Ye m=0:=Qaa h0 _ (List.mem_cons_self ..);have hz:=Qaa h0 _ (List.mem_cons_of_mem _ (List.mem_cons_self ..));have hn:l.length≤256:=by
     by_cases h:256<l.length
     ·rw[if_pos h]at hz;exact absurd hz (by decide)
     ·omega
    rw[if_neg (by omega)]at hz;have ho:Qtp l:=⟨hn,hL.s,fun a ha=>Qaa hz _ (List.mem_map.2 ⟨a,ha,rfl⟩)⟩;have hfin:=Qnk (m:=m) Qja ho.s;rw[Nat.zero_add]at hfin;have hg:=hfin.g;have hls:Qjn (l.foldl (rpS m) rp0).1:=Yg6 hg hn;have hol:=hfin.o;simp only[h0,if_true,decide_true,cond_true,l32 hF7 hM.len hv ho,Option.bind_some,Qzi hF4 hls,l33 hF4 hls (fun t ht=>Nat.le_trans (hg.tn t ht) (by decide)),l35 (F:=F) (l:=(l.foldl (rpS m) rp0).2.1) (by omega) (by omega),l34 (F:=F) (l:=(l.foldl (rpS m) rp0).2.1) (by omega) (by omega)]
   ·have hzs:(Qa ByteArray,Qa (Qw),Qa (Q2),Qa (Qj),Qa (Q4))=zS:=rfl;have e35:c35 F []=some []:=l35 (by simp;omega) (by simp);have e34:c34 F ([],Qa (Int×Int))=some true:=l34 (by simp;omega) (by simp);simp only[h0,if_false,decide_true,decide_false,cond_true,cond_false,Option.bind_some,hzs,Qzi hF4 Zgj,l33 hF4 Zgj (fun _ h=>by cases h),e35,e34]
end Go.Proofs.Tryz
