/- Plain law: who is eligible; acts that are legal, about a club, an athlete, a licence. Plain law: entries, withdrawals, checks and teams that are legal. And further parts. -/
import Derived.Test.YtpkbmngnolhopaaGreatDoorXT3q
import Derived.Test.YtpkbmngnolhopaaGreatDoorXT3n
import Derived.Test.YtpkbmngnolhopaaGreatDoorXT3i
set_option maxRecDepth 100000
set_option linter.unusedVariables false
set_option linter.unusedSimpArgs false
set_option linter.all false
open Option renaming bind_some->o
open Int renaming toNat_natCast->C,tdiv->ZD
open ByteArray renaming empty->I,mk->ZB
open List renaming length->J,toArray->R,drop_zero->ZC
open Bool renaming not_true->U,false_eq_true->ZA
namespace Go.Proofs.Tryz
open Go Go.Sx
theorem Zk9:(YC:ByteArray)=k0:=rfl
def Yv(s:Qi)(x:ByteArray):Ath:=s.2.1.getD (aI s x).toNat dA
def Qri(m:Mt)(s:Qi)(x:ByteArray):Int:=w64 (ZD (w64 (m.1-(Yv s x).2.2.1)) 365)
def elE(m:Mt)(s:Qi)(c:Cst)(x:ByteArray):Int:=
 if(!Qc c.2.2.1 k0&& !Qc c.2.2.1 (Yv s x).2.2.2)=true then 18
 else if m.1<(Yv s x).2.2.1∨Qri m s x<c.2.2.2.1∨c.2.2.2.2.1<Qri m s x then 18
 else if(s.2.2.1.any (Uj x m.1))=true then 0 else 7
theorem Zaj{F:Nat}(hF:700<=F){m:Mt}{s:Qi}(h:Zr s)(c:Cst){x:ByteArray}(hx:0<=aI s x):Qhe F (s,m,c,x)=some (elE m s c x):=by
 have hF4:400<=F:=by omega
 obtain⟨k,h1,h2⟩:=Qc8 hx;have hl:=h.l;have hd:Zw=dA:=rfl;have e3:∀a b c,Q4 F (a::b::c::Qa Int)=some (Qn [a,b,c]):=fun a b c=>W1 hF4 (by simp[Qa]);have hA:s.2.1.getD k dA=Yv s x:=by unfold Yv;rw[h1];rfl
 have e147:=Yl2 (F:=F) (l:=s.2.2.1) (by omega) (by omega) x m.1;unfold Qhe elE Qri;simp only[Zj,Qc1 hF4 h,o,h1,hd,Zk9];simp(disch:=omega)only[Zf,C,hA,e147,l86,e3,o];generalize Yv s x=a;generalize s.2.2.1.any (Uj x m.1)=lb;generalize w64 (ZD (w64 (m.1-a.2.2.1)) 365)=ag;cases Qc c.2.2.1 k0<;>cases Qc c.2.2.1 a.2.2.2<;>by_cases p1:m.1<a.2.2.1<;>by_cases p2:ag<c.2.2.2.1<;>by_cases p3:c.2.2.2.2.1<ag<;>cases lb<;>
  simp[p1,p2,p3,Qn,Uq,Ziw,Zhq,Q3]
theorem l59{F:Nat}(hF:700<=F){m:Mt}(hm:m.2.2.2.2.length<=300){s:Qi}(h:Zr s){x c:ByteArray}(hx:0<=aI s x)(hc:0<=cI m c):c59 F (m,s,x,c)=some (elE m s (Zh m c) x):=by
 have hF4:400<=F:=by omega
 obtain⟨k,h1,h2⟩:=Qc8 hx;obtain⟨j,y,j1,j2,-,-⟩:=Wl hc;have j1':Xc (fun y:Cst=>Qc y.1 c) m.2.2.2.2=(j:Int):=j1;have hC:m.2.2.2.2.getD j dC=Zh m c:=by unfold Zh cI;rw[j1'];rfl
 have hl:=h.l;have hd:Zw=dA:=rfl;have hdC:Zd=dC:=rfl;have hA:s.2.1.getD k dA=Yv s x:=by unfold Yv;rw[h1];rfl
 have e68:=l68 (F:=F) (l:=s.2.2.1) (by omega) (by omega) x m.1;unfold c59 elE Qri tw;simp only[Zj,l40 hF4 h,l47 (F:=F) (m:=m) (by omega) (by omega),o,h1,j1',hd,hdC,Zk9];simp(disch:=omega)only[Zf,C,hA,hC,e68,o];generalize Yv s x=a;generalize Zh m c=ct;generalize s.2.2.1.any (Uj x m.1)=lb;generalize w64 (ZD (w64 (m.1-a.2.2.1)) 365)=ag;cases Qc ct.2.2.1 k0<;>cases Qc ct.2.2.1 a.2.2.2<;>by_cases p1:m.1<a.2.2.1<;>by_cases p2:ag<ct.2.2.2.1<;>by_cases p3:ct.2.2.2.2.1<ag<;>cases lb<;>
  simp[p1,p2,p3,Uq,Ziw,Zhq,Q3]
def Qav(s:Qi)(x:ByteArray):Int:=((s.2.2.2.1.filter fun e=>Qc e.1 x).length:Int)
theorem Zai{F:Nat}(hF:400<=F){s:Qi}(h:Zr s)(x:ByteArray):Qg9 F (s,x)=some (Qav s x):=by
 have h1:=h.e;unfold Qg9 Qav;simp only[tE];refine Jl s.2.2.2.1 (fun n j=>(n,(j:Int))) (fun y n=>.inl (if Qc y.1 x=true then n+1 else n)) (fun n=>n) (fun j n=>0<=n∧n<=j) 0 (by omega) rfl ⟨by omega,by omega⟩ ?_ ?_ ?_
 ·intro j y n hj hy hn;refine⟨?_,fun s' hs=>?_⟩
  ·simp(disch:=omega)only[Z3,Zf,C,getD_some hy,Zy];cases Qc y.1 x<;>rfl
  ·simp only[Sum.inl.injEq]at hs;subst hs;split<;>omega
 ·intro n _;simp(disch:=omega)only[Z0]
 ·rw[Uw (fun n (y:Qq)=>if Qc y.1 x=true then n+1 else n),Qpi (fun y:Qq=>Qc y.1 x),Int.zero_add]
theorem Zi4{F:Nat}(hF:400<=F){s:Qi}(h:Zr s)(x:ByteArray):Qlg F (s,x)=some (Qav s x):=by
 have h1:=h.e;unfold Qlg Qav;simp only[tE];refine Jl s.2.2.2.1 (fun n j=>(n,(j:Int))) (fun y n=>.inl (if Qc y.1 x=true then n+1 else n)) (fun n=>n) (fun j n=>0<=n∧n<=j) 0 (by omega) rfl ⟨by omega,by omega⟩ ?_ ?_ ?_
 ·intro j y n hj hy hn;refine⟨?_,fun s' hs=>?_⟩
  ·simp(disch:=omega)only[Z3,Zf,C,getD_some hy,Zy];cases Qc y.1 x<;>rfl
  ·simp only[Sum.inl.injEq]at hs;subst hs;split<;>omega
 ·intro n _;simp(disch:=omega)only[Z0]
 ·rw[Uw (fun n (y:Qq)=>if Qc y.1 x=true then n+1 else n),Qpi (fun y:Qq=>Qc y.1 x),Int.zero_add]
def Qan(s:Qi)(b:Q0):Int:=if hasB s.1 b.2.2.1=true then 9 else 0
def Qbf(s:Qi)(b:Q0):Int:=if hasB s.1 b.2.2.1=true then(if 0<=aI s b.2.1 then 9 else if b.1<b.2.2.2.2.2.1 then 3 else 0)else 10
def Qbc(s:Qi)(b:Q0):Int:=if aI s b.2.1<0 then 10 else 0
def Kj(s:Qi)(b:Q0):Int:=if aI s b.2.1<0 then 10 else if hasB s.1 b.2.2.1=true then(if Qc (Yv s b.2.1).2.1 b.2.2.1=true then 9 else if 0<Qav s b.2.1 then 19 else 0)else 10
theorem Ym3{F:Nat}(hF:400<=F){m:Mt}{s:Qi}(h:Zr s)(k:ByteArray)(b:Q0):Qph F (m,s,b.1,k,b.2)=some (Qan s b):=by unfold Qph Qan;simp only[Zj,Qsd hF h,l86,o]
theorem Ymh{F:Nat}(hF:400<=F){m:Mt}{s:Qi}(h:Zr s)(k:ByteArray)(b:Q0):Qpp F (m,s,b.1,k,b.2)=some (Qbf s b):=by have e3:∀a b c,Q4 F (a::b::c::Qa Int)=some (Qn [a,b,c]):=fun a b c=>W1 hF (by simp[Qa]);unfold Qpp Qbf;simp only[Zj,Qsd hF h,Qc1 hF h,l86,e3,o];cases hasB s.1 b.2.2.1<;>by_cases p1:0<=aI s b.2.1<;>by_cases p2:b.1<b.2.2.2.2.2.1<;>simp[p1,p2,Qn]
theorem Zqy{F:Nat}(hF:400<=F){m:Mt}{s:Qi}(h:Zr s)(k:ByteArray)(b:Q0):Qru F (m,s,b.1,k,b.2)=some (Qbc s b):=by unfold Qru Qbc;simp only[Zj,Qc1 hF h,l86,o,decide_eq_true_eq]
theorem Zq9{F:Nat}(hF:400<=F){m:Mt}{s:Qi}(h:Zr s)(k:ByteArray)(b:Q0):Qqm F (m,s,b.1,k,b.2)=some (Kj s b):=by
 have e2:∀a b,Q4 F (a::b::Qa Int)=some (Qn [a,b]):=fun a b=>W1 hF (by simp[Qa]);unfold Qqm Kj;simp only[Zj,Qc1 hF h,Qsd hF h,o];by_cases p1:aI s b.2.1<0
 ·simp[p1]
 ·have hcl:X2 s b.2.1=(Yv s b.2.1).2.1:=rfl;simp only[p1,decide_false,cond_false,if_false,Qrj hF h (show 0<=aI s b.2.1 by omega),Zai hF h,hcl,l86,e2,o];cases hasB s.1 b.2.2.1<;>cases Qc (Yv s b.2.1).2.1 b.2.2.1<;>by_cases p2:0<Qav s b.2.1<;>simp[p2,Qn]
theorem Qpy{F:Nat}(hF:400<=F){s:Qi}(h:Zr s)(k:ByteArray)(b:Q0):Qr6 F (s,b.1,k,b.2)=some (if Qc k Yw=true then Qan s b else if Qc k Ys=true then Qbf s b else if Qc k Ym=true then Kj s b else Qbc s b):=by
 have hd:Zw=dA:=rfl;have h1:=h.c;have e54:=l54 hF (l:=s.1) (by omega) b.2.2.1;unfold Qr6;simp only[Zj,e54,l40 hF h,hd,Zi4 hF h,o];change (bif Qc k Yw then _ else _)=_;cases q1:Qc k Yw
 ·simp only[cond_false,ZA,if_false];change (bif Qc k Ys then _ else _)=_;cases q2:Qc k Ys
  ·simp only[cond_false,ZA,if_false];rw[show Qc k YD=Qc k Ym from rfl];cases q3:Qc k Ym
   ·unfold Qbc;by_cases p1:aI s b.2.1<0<;>simp[p1]
   ·unfold Kj Yv;by_cases p1:aI s b.2.1<0
    ·simp[p1]
    ·obtain⟨j,j1,j2⟩:=Qc8 (show 0<=aI s b.2.1 by omega);simp(disch:=omega)only[j1,p1,Zf,C];cases hasB s.1 b.2.2.1<;>cases Qc (s.2.1.getD j dA).2.1 b.2.2.1<;>by_cases p2:0<Qav s b.2.1<;>simp[p2,show¬((j:Nat):Int)<0 by omega]
  ·unfold Qbf;cases hasB s.1 b.2.2.1<;>by_cases p1:0<=aI s b.2.1<;>by_cases p2:b.1<b.2.2.2.2.2.1<;>simp[p1,p2]
 ·unfold Qan;cases hasB s.1 b.2.2.1<;>rfl
def Qgi(c:Cst):Mk:=(c.2.2.2.2.2.2.2.1,c.2.2.2.2.2.2.2.2.1,c.2.2.2.2.2.2.2.2.2.1)
def U5(b:Q0):Mk:=(b.2.2.2.2.2.2.2.1,b.2.2.2.2.2.2.2.2.1,b.2.2.2.2.2.2.2.2.2.1)
theorem Zi8{m:Mt}(hv:Z4 m=0){x:ByteArray}(hc:0<=cI m x):Jp (Qgi (Zh m x))∧Jj (Zh m x).2.1 (Zh m x).2.2.2.2.2.2.2.1=true:=by
 obtain⟨j,y,j1,j2,-,-⟩:=Wl hc;have j1':cI m x=(j:Int):=j1;have hC:m.2.2.2.2.getD j dC=Zh m x:=by unfold Zh;rw[j1'];rfl
 unfold Z4 at hv;split at hv
 ·cases hv
 ·split at hv
  ·cases hv
  ·split at hv
   ·cases hv
   ·split at hv
    ·cases hv
    ·have h:=Y1 hv _ (List.mem_map.2 ⟨j,List.mem_range.2 j2,rfl⟩);unfold Ws at h;rw[hC]at h;split at h
     ·split at h
      ·cases h
      ·unfold Qh3 at h;split at h
       ·cases h
       ·split at h
        ·cases h
        ·split at h
         ·cases h
         ·split at h
          ·cases h
          ·split at h
           ·cases h
           ·split at h
            ·rename_i hm1;split at h
             ·rename_i hm2;exact⟨hm1,hm2⟩
             ·cases h
            ·rename_i hm1;exact absurd h hm1
     ·cases h
theorem Ygp{m:Mt}{s:Qi}(hv:stE m s=0):Z4 m=0:=by
 by_cases h:Z4 m=0
 ·exact h
 ·rw[stE,if_neg h]at hv;exact absurd hv h
theorem Zju{k:ByteArray}{x y:Mk}(h1:Jj k x.1=true)(h2:Jj k y.1=true):Qdx x y:=by
 unfold Jj at h1 h2;simp only[Bool.or_eq_true]at h1 h2;unfold Qdx;rcases h1 with h1|h1
 ·rcases h2 with h2|h2
  ·right;right;rw[Yy.1 h1,Yy.1 h2];exact Ku _
  ·exact .inr (.inl h2)
 ·exact .inl h1
def Qa1(m:Mt)(s:Qi)(b:Q0):Int:=
 if aI s b.2.1<0∨cI m b.2.2.2.2.1<0 then 10
 else if 0<(Zh m b.2.2.2.2.1).2.2.2.2.2.2.2.2.2.2 then 13
 else if b.1<m.2.1∨m.2.2.1<b.1 then 19
 else if 0<=eI s b.2.1 b.2.2.2.2.1 then 9
 else if elE m s (Zh m b.2.2.2.2.1) b.2.1=0 then
  (if Jj (Zh m b.2.2.2.2.1).2.1 b.2.2.2.2.2.2.2.1 = true then
   (if Qc (Zh m b.2.2.2.2.1).2.2.2.2.2.2.2.1 kN=false∧0<Wg (wE (U5 b)) (wE (Qgi (Zh m b.2.2.2.2.1)))then 30 else if m.2.2.2.1<=Qav s b.2.1 then 5 else 0)
   else 30)
 else elE m s (Zh m b.2.2.2.2.1) b.2.1
theorem Zhu:(YM:ByteArray)=kN:=rfl
theorem Zqt{F:Nat}(hF:700<=F){m:Mt}(hm:m.2.2.2.2.length<=300){s:Qi}(h:Zr s)(k:ByteArray){b:Q0}(hv:Z4 m=0)(hb:Jp (U5 b)):Qqa F (m,s,b.1,k,b.2)=some (Qa1 m s b):=by
 have hF4:400<=F:=by omega
 have e2:∀a b,Q4 F (a::b::Qa Int)=some (Qn [a,b]):=fun a b=>W1 hF4 (by simp[Qa]);have e5:∀a b c d e,Q4 F (a::b::c::d::e::Qa Int)=some (Qn [a,b,c,d,e]):=fun a b c d e=>W1 hF4 (by simp[Qa]);unfold Qqa Qa1;simp only[Zj,Qwc hF4 hm,o];by_cases hc:cI m b.2.2.2.2.1<0
 ·simp[hc]
 ·obtain⟨s1,s2⟩:=Zi8 hv (show 0<=cI m b.2.2.2.2.1 by omega);simp only[hc,if_false,U,cond_false,or_false,Qc1 hF4 h,o];generalize Zh m b.2.2.2.2.1=ct at s1 s2;by_cases ha:aI s b.2.1<0
  ·simp[ha]
  ·simp only[ha,decide_false,cond_false,if_false,l86,Qju hF4 h,Zaj hF h ct (show 0<=aI s b.2.1 by omega),Zlx,Zai hF4 h,e2,e5,o,Zhu];generalize hel:elE m s ct b.2.1=el;by_cases p1:0<ct.2.2.2.2.2.2.2.2.2.2
   ·by_cases p2:b.1<m.2.1<;>simp[p1,p2,Qn]
   ·by_cases p2:b.1<m.2.1
    ·simp[p1,p2,Qn]
    ·by_cases p3:m.2.2.1<b.1
     ·simp[p1,p2,p3,Qn]
     ·by_cases p4:0<=eI s b.2.1 b.2.2.2.2.1
      ·simp[p1,p2,p3,p4,Qn]
      ·by_cases p5:el=0
       ·cases p6:Jj ct.2.1 b.2.2.2.2.2.2.2.1 with
        |false=>simp[p1,p2,p3,p4,p5,p6,Qn]
        |true=>have e205:=Zcc hF4 hb s1 (Zju (k:=ct.2.1) p6 s2);simp only[U5,Qgi]at e205;simp only[p1,p2,p3,p4,p5,p6,Qn,or_false,if_false,if_true,decide_true,decide_false,U,ZA,cond_false,o,e205,U5,Qgi];cases Qc ct.2.2.2.2.2.2.2.1 kN<;>by_cases p7:0<Wg (wE (b.2.2.2.2.2.2.2.1,b.2.2.2.2.2.2.2.2.1,b.2.2.2.2.2.2.2.2.2.1)) (wE (ct.2.2.2.2.2.2.2.1,ct.2.2.2.2.2.2.2.2.1,ct.2.2.2.2.2.2.2.2.2.1))<;>by_cases p8:m.2.2.2.1<=Qav s b.2.1<;>simp[p7,p8,Qn]
       ·simp[p1,p2,p3,p4,p5,Qn]
theorem Yae{F:Nat}(hF:700<=F){m:Mt}(hm:m.2.2.2.2.length<=300){s:Qi}(h:Zr s)(k:ByteArray){b:Q0}(hv:Z4 m=0)(hb:Jp (U5 b)):Qry F (m,s,b.1,k,b.2)=some (Qa1 m s b):=by
 have hF4:400<=F:=by omega
 have hdC:Zd=dC:=rfl;have e47:c47 F (m,b.2.2.2.2.1)=some (cI m b.2.2.2.2.1):=l47 (by omega) (by omega) _;unfold Qry Qa1;simp only[Zj,e47,l40 hF4 h,hdC,o,Zhu];by_cases ha:aI s b.2.1<0
 ·simp[ha]
 ·by_cases hc:cI m b.2.2.2.2.1<0
  ·simp[ha,hc]
  ·obtain⟨s1,s2⟩:=Zi8 hv (show 0<=cI m b.2.2.2.2.1 by omega);obtain⟨j,y,j1,j2,-,-⟩:=Wl (p:=fun y:Cst=>Qc y.1 b.2.2.2.2.1) (l:=m.2.2.2.2) (show 0<=cI m b.2.2.2.2.1 by omega);have j1':cI m b.2.2.2.2.1=(j:Int):=j1;have hC:m.2.2.2.2.getD j dC=Zh m b.2.2.2.2.1:=by unfold Zh;rw[j1'];rfl
   have hnn:¬((j:Nat):Int)<0:=by omega
   simp only[ha,j1',hnn,or_self,decide_false,cond_false,if_false,o,l59 hF hm h (show 0<=aI s b.2.1 by omega) (show 0<=cI m b.2.2.2.2.1 by omega),l53 hF4 h,Zgw,Zi4 hF4 h];simp(disch:=omega)only[Zf,C,hC];generalize Zh m b.2.2.2.2.1=ct at s1 s2;generalize hel:elE m s ct b.2.1=el;by_cases p1:0<ct.2.2.2.2.2.2.2.2.2.2
   ·simp[p1]
   ·by_cases p2:b.1<m.2.1
    ·simp[p1,p2]
    ·by_cases p3:m.2.2.1<b.1
     ·simp[p1,p2,p3]
     ·by_cases p4:0<=eI s b.2.1 b.2.2.2.2.1
      ·simp[p1,p2,p3,p4]
      ·by_cases p5:el=0
       ·cases p6:Jj ct.2.1 b.2.2.2.2.2.2.2.1 with
        |false=>simp[p1,p2,p3,p4,p5,p6]
        |true=>have e57:=l57 F hb s1 (Zju (k:=ct.2.1) p6 s2);simp only[U5,Qgi]at e57;simp only[p1,p2,p3,p4,p5,p6,or_false,if_false,if_true,decide_true,decide_false,U,ZA,cond_false,o,e57,U5,Qgi];cases Qc ct.2.2.2.2.2.2.2.1 kN<;>by_cases p7:0<Wg (wE (b.2.2.2.2.2.2.2.1,b.2.2.2.2.2.2.2.2.1,b.2.2.2.2.2.2.2.2.2.1)) (wE (ct.2.2.2.2.2.2.2.1,ct.2.2.2.2.2.2.2.2.1,ct.2.2.2.2.2.2.2.2.2.1))<;>by_cases p8:m.2.2.2.1<=Qav s b.2.1<;>simp[p7,p8]
       ·simp[p1,p2,p3,p4,p5]
def Ub(m:Mt)(s:Qi)(b:Q0):Int:=if eI s b.2.1 b.2.2.2.2.1<0 then 10 else if m.1<b.1 then 20 else 0
def Vg(s:Qi)(a c:ByteArray):Qq:=s.2.2.2.1.getD (eI s a c).toNat dE
def Ua(m:Mt)(s:Qi)(b:Q0):Int:=if eI s b.2.1 b.2.2.2.2.1<0 then 10 else if(Vg s b.2.1 b.2.2.2.2.1).2.2.2.2.2.2=true then 9 else if b.1=m.1 then 0 else 19
theorem Zui{F:Nat}(hF:400<=F){m:Mt}{s:Qi}(h:Zr s)(k:ByteArray)(b:Q0):Qn0 F (m,s,b.1,k,b.2)=some (Ub m s b):=by have e2:∀a b,Q4 F (a::b::Qa Int)=some (Qn [a,b]):=fun a b=>W1 hF (by simp[Qa]);unfold Qn0 Ub;simp only[Zj,Qju hF h,l86,e2,o];by_cases p1:eI s b.2.1 b.2.2.2.2.1<0<;>by_cases p2:m.1<b.1<;>simp[p1,p2,Qn]
theorem Zt0{F:Nat}(hF:400<=F){m:Mt}{s:Qi}(h:Zr s)(k:ByteArray)(b:Q0):Qpx F (m,s,b.1,k,b.2)=some (Ua m s b):=by
 have e2:∀a b,Q4 F (a::b::Qa Int)=some (Qn [a,b]):=fun a b=>W1 hF (by simp[Qa]);unfold Qpx Ua Vg;simp only[Zj,tE,Qju hF h,l86,e2,o];by_cases p1:eI s b.2.1 b.2.2.2.2.1<0
 ·simp[p1]
 ·obtain⟨j,y,j1,j2,-,-⟩:=Wl (p:=eP b.2.1 b.2.2.2.2.1) (l:=s.2.2.2.1) (show 0<=eI s b.2.1 b.2.2.2.2.1 by omega);have j1':eI s b.2.1 b.2.2.2.2.1=(j:Int):=j1;have hnn:¬((j:Nat):Int)<0:=by omega
  simp(disch:=omega)only[j1',hnn,decide_false,cond_false,if_false,Zf,C];cases(s.2.2.2.1.getD j dE).2.2.2.2.2.2<;>by_cases p2:b.1=m.1<;>simp[p2,Qn]
def teE(m:Mt)(s:Qi)(b:Q0)(i:Nat):Int:=
 if aI s (b.2.2.2.2.2.2.2.2.2.2.getD i I)<0 then 10
 else if Qc (Yv s (b.2.2.2.2.2.2.2.2.2.2.getD i I)).2.1 b.2.2.1=true then
  (if hasB (b.2.2.2.2.2.2.2.2.2.2.take i) (b.2.2.2.2.2.2.2.2.2.2.getD i I)=true then 9 else elE m s (Zh m b.2.2.2.2.1) (b.2.2.2.2.2.2.2.2.2.2.getD i I))
 else 18
def Qae(m:Mt)(s:Qi)(b:Q0):Int:=
 if hasB s.1 b.2.2.1=false∨cI m b.2.2.2.2.1<0 then 10
 else if(Zh m b.2.2.2.2.1).2.2.2.2.2.2.2.2.2.2=0 then 13
 else if m.1<b.1 then 20
 else if(b.2.2.2.2.2.2.2.2.2.2.length:Int)=(Zh m b.2.2.2.2.1).2.2.2.2.2.2.2.2.2.2 then Qn ((List.range b.2.2.2.2.2.2.2.2.2.2.length).map (teE m s b))else 2
theorem Zt9{F:Nat}(hF:700<=F){m:Mt}{s:Qi}(h:Zr s)(k:ByteArray){b:Q0}(hb:b.2.2.2.2.2.2.2.2.2.2.length<=10){i:Nat}(hi:i<b.2.2.2.2.2.2.2.2.2.2.length):
  Qr0 F ((i:Int),b.2.2.2.2.2.2.2.2.2.2.getD i I,s,(b.1,k,b.2),m,Zh m b.2.2.2.2.1)=some (teE m s b i):=by
 have hF4:400<=F:=by omega
 have e3:∀a b c,Q4 F (a::b::c::Qa Int)=some (Qn [a,b,c]):=fun a b c=>W1 hF4 (by simp[Qa]);have hi':(i:Int)<=b.2.2.2.2.2.2.2.2.2.2.length:=by omega
 have e107:=Zdb hF4 (l:=b.2.2.2.2.2.2.2.2.2.2.take i) (x:=b.2.2.2.2.2.2.2.2.2.2.getD i I) (by simp;omega);unfold Qr0 teE;generalize b.2.2.2.2.2.2.2.2.2.2.getD i I=x at e107;simp only[Zj,Qc1 hF4 h,o,C,ZC];by_cases p1:aI s x<0
 ·simp[p1]
 ·have ha:0<=aI s x:=by omega
  have hcl:X2 s x=(Yv s x).2.1:=rfl;simp(disch:=omega)only[p1,decide_false,cond_false,if_false,Zf,e107,Qrj hF4 h ha,hcl,Zaj hF h _ ha,l86,e3,o];generalize elE m s (Zh m b.2.2.2.2.1) x=el;cases Qc (Yv s x).2.1 b.2.2.1<;>cases hasB (b.2.2.2.2.2.2.2.2.2.2.take i) x<;>by_cases p2:el=0<;>simp[p2,Qn]
theorem Ya4{F:Nat}(hF:700<=F){m:Mt}(hm:m.2.2.2.2.length<=300){s:Qi}(h:Zr s)(k:ByteArray){b:Q0}(hb:b.2.2.2.2.2.2.2.2.2.2.length<=10):Qq0 F (m,s,b.1,k,b.2)=some (Qae m s b):=by
 have hF4:400<=F:=by omega
 have e4:∀a b c d,Q4 F (a::b::c::d::Qa Int)=some (Qn [a,b,c,d]):=fun a b c d=>W1 hF4 (by simp[Qa]);unfold Qq0 Qae;simp only[Zj,Qwc hF4 hm,Qsd hF4 h,l86,e4,o];by_cases hc:cI m b.2.2.2.2.1<0
 ·simp[hc,Qn]
 ·simp only[hc,if_false,U,cond_false,or_false];have e100:Qrz F (b.2.2.2.2.2.2.2.2.2.2,s,(b.1,k,b.2),m,Zh m b.2.2.2.2.1)=some (Qn ((List.range b.2.2.2.2.2.2.2.2.2.2.length).map (teE m s b))):=by
   unfold Qrz;refine Qud b.2.2.2.2.2.2.2.2.2.2.length (teE m s b) (by omega) (by omega) ?_ ?_ (Zls _)
   ·intro i hi;simp(disch:=omega)only[Z3,Zf,C,Zy,Zj,Zt9 hF h k hb hi,o,Zl3]
   ·simp(disch:=omega)only[Z0]
  simp only[e100,o];generalize Zh m b.2.2.2.2.1=ct;cases hasB s.1 b.2.2.1<;>by_cases p1:ct.2.2.2.2.2.2.2.2.2.2=0<;>by_cases p2:m.1<b.1<;>by_cases p3:(b.2.2.2.2.2.2.2.2.2.2.length:Int)=ct.2.2.2.2.2.2.2.2.2.2<;>simp[p1,p2,p3,Qn]
theorem Yiw{F:Nat}(hF:700<=F){m:Mt}(hm:m.2.2.2.2.length<=300){s:Qi}(h:Zr s)(k:ByteArray){b:Q0}(hb:b.2.2.2.2.2.2.2.2.2.2.length<=10):Qp4 F (m,s,b.1,k,b.2)=some (Qae m s b):=by
 have hF4:400<=F:=by omega
 have hdC:Zd=dC:=rfl;have hdA:Zw=dA:=rfl;have e47:c47 F (m,b.2.2.2.2.1)=some (cI m b.2.2.2.2.1):=l47 (by omega) (by omega) _;have h1:=h.c;have e54:=l54 hF4 (l:=s.1) (by omega) b.2.2.1;unfold Qp4 Qae;simp only[Zj,e47,e54,hdC,hdA,o];cases hasB s.1 b.2.2.1
 ·simp
 ·by_cases hc:cI m b.2.2.2.2.1<0
  ·simp[hc]
  ·obtain⟨j,y,j1,j2,-,-⟩:=Wl (p:=fun y:Cst=>Qc y.1 b.2.2.2.2.1) (l:=m.2.2.2.2) (show 0<=cI m b.2.2.2.2.1 by omega);have j1':cI m b.2.2.2.2.1=(j:Int):=j1;have hC:m.2.2.2.2.getD j dC=Zh m b.2.2.2.2.1:=by unfold Zh;rw[j1'];rfl
   have hnn:¬((j:Nat):Int)<0:=by omega
   simp(disch:=omega)only[j1',hnn,U,Bool.true_eq_false,or_self,decide_false,cond_false,if_false,o,Zf,C,hC];by_cases p1:(Zh m b.2.2.2.2.1).2.2.2.2.2.2.2.2.2.2=0
   ·simp[p1]
   ·by_cases p2:m.1<b.1
    ·simp[p1,p2]
    ·by_cases p3:(b.2.2.2.2.2.2.2.2.2.2.length:Int)=(Zh m b.2.2.2.2.1).2.2.2.2.2.2.2.2.2.2
     ·simp only[p1,p2,p3,decide_true,decide_false,U,cond_false,if_false,if_true];rw[<-p3];refine Qud b.2.2.2.2.2.2.2.2.2.2.length (teE m s b) (by omega) (by omega) ?_ ?_ (Zls _)
      ·intro i hi;have hi':(i:Int)<=b.2.2.2.2.2.2.2.2.2.2.length:=by omega
       have e54b:=fun x=>l54 hF4 (l:=b.2.2.2.2.2.2.2.2.2.2.take i) (by simp;omega) x;unfold teE Yv;simp(disch:=omega)only[Z3,Zf,C,Zy,l40 hF4 h,ZC,e54b,o];generalize b.2.2.2.2.2.2.2.2.2.2.getD i I=x;by_cases q1:aI s x<0
       ·simp[q1]
       ·have ha:0<=aI s x:=by omega
        obtain⟨ka,k1,k2⟩:=Qc8 ha;have el:=l59 hF hm h ha (show 0<=cI m b.2.2.2.2.1 by omega);simp(disch:=omega)only[el,k1,Zf,C,show¬((ka:Nat):Int)<0 by omega,decide_false,cond_false,if_false,o];generalize elE m s (Zh m b.2.2.2.2.1) x=el;cases Qc (s.2.1.getD ka dA).2.1 b.2.2.1<;>cases hasB (b.2.2.2.2.2.2.2.2.2.2.take i) x<;>by_cases q2:el=0<;>simp[q2]
      ·simp(disch:=omega)only[Z0]
     ·simp[p1,p2,p3]
end Go.Proofs.Tryz
section
namespace Go.Proofs.Tryz
open Go Go.Sx
end Go.Proofs.Tryz
end
section
namespace Go.Proofs.Tryz
open Go Go.Sx
noncomputable section
def Zae(F:Nat):LK:=lN
def Qkn(F:Nat)(a:List ByteArray):Option (List ByteArray):=
 bif decide (a.length=0)then((gd (decide (J (Qa ByteArray++a)*(16:Nat)<=(140737488355328:Nat))) (gd (decide (J (Qa ByteArray++a)<=9223372036854775807)) (gd (decide ((0:Nat)+J (Qa ByteArray++a)<=J (Qa ByteArray++a))) (some (List.take (J (Qa ByteArray++a)) (List.drop (0:Nat) (Qa ByteArray++a))))))).bind fun(v4:List ByteArray)=>gd (Qt.eqv (Qe.val (Ty.seq Ze)::Qa Qe) (Qa ByteArray) v4) (some (Qa ByteArray)))else(gd (decide (J (Qa ByteArray++a)*(16:Nat)<=(140737488355328:Nat))) (gd (decide (J (Qa ByteArray++a)<=9223372036854775807)) (gd (decide ((0:Nat)+J (Qa ByteArray++a)<=J (Qa ByteArray++a))) (some (List.take (J (Qa ByteArray++a)) (List.drop (0:Nat) (Qa ByteArray++a)))))))
def Ydy(F:Nat):PC:={ats:=Qaz,rts:=Qaz,code:=Qkn F}
theorem Yo3(F:Nat)(a:List ByteArray):Z2 cx (Zae F).x 1000 .leaf f150 (Qs f150) Qaz Qaz a=Qkn F a:=by kernel_rfl
theorem Zji(F:Nat):Qg cx 150 (Ydy F):=Qg.Yc Yd (Zae F).ok (n:=1000) (an:=.leaf) (fn:=f150) (c:=Qs f150) (by kernel_rfl) (by kernel_rfl) (fun a y h=>(Yo3 F a).trans h) (by kernel_rfl)
end
end Go.Proofs.Tryz
end
section
namespace Go.Proofs.Tryz
open Go Go.Sx
noncomputable section
end
end Go.Proofs.Tryz
end
namespace Go.Proofs.Tryz
open Go Go.Sx
theorem Yqw{F:Nat}{l:List ByteArray}(h:l.length<=1000):Qkn F l=some l:=by
 have e:Qa ByteArray++l=l:=rfl;have h1:l.length*16<=140737488355328:=by omega
 have h2:l.length<=9223372036854775807:=by omega
 unfold Qkn;simp only[e,h1,h2,Nat.zero_add,Nat.le_refl,decide_true,Q3,ZC,List.take_length,o];by_cases h0:l.length=0
 ·obtain rfl:=List.eq_nil_of_length_eq_zero h0;rfl
 ·simp only[h0,decide_false,cond_false]
noncomputable def Yo5(F:Nat):LK:=lN
noncomputable def c81(F:Nat)(a:PUnit):Option (Zs):=
 some (((8000:Int),(7900:Int),(7990:Int),(2:Int),({data:=R (115::112::114::105::110::116::Qa UInt8)},YK,(ZB (R (Qa UInt8))),(16:Int),(40:Int),(2:Int),(1:Int),YK,(120000:Int),(ZB (R (Qa UInt8))),(0:Int))::({data:=R (106::117::109::112::Qa UInt8)},YL,(ZB (R (Qa UInt8))),(16:Int),(40:Int),(8:Int),(2:Int),YM,(0:Int),YR,(0:Int))::({data:=R (114::101::108::97::121::Qa UInt8)},YK,(ZB (R (Qa UInt8))),(16:Int),(40:Int),(8:Int),(1:Int),YM,(0:Int),YR,(2:Int))::Qa (Yj)))
noncomputable def Zi1(F:Nat):PC:={ats:=[],rts:=[.agg Xs],code:=c81 F}
theorem Yog(F:Nat):Qg cx 81 (Zi1 F):=qE (Yo5 F) .leaf f81 (by kernel_rfl) fun a=>by kernel_rfl
noncomputable def Yrl(F:Nat):LK:=lN
noncomputable def c83(F:Nat)(a:Int):Option (ByteArray×Int×ByteArray):=
 some ((YK,w64 ((100:Int)*a),(ZB (R (Qa UInt8)))))
noncomputable def Qsr(F:Nat):PC:={ats:=Zp,rts:=[.agg kt7],code:=c83 F}
theorem Zfm(F:Nat):Qg cx 83 (Qsr F):=qE (Yrl F) .leaf f83 (by kernel_rfl) fun a=>by kernel_rfl
end Go.Proofs.Tryz
