/- Plain law: who is eligible; acts that are legal, about a club, an athlete, a licence. Plain law: entries, withdrawals, checks and teams that are legal. And further parts. -/
import Derived.Test.YtpkbmngnolhopaaGreatDoorXT3i
import Derived.Test.YtpkbmngnolhopaaGreatDoorXT3n
import Derived.Test.YtpkbmngnolhopaaGreatDoorXT3m
set_option maxRecDepth 100000
set_option linter.unusedVariables false
set_option linter.unusedSimpArgs false
set_option linter.all false
open Option renaming bind_some->o
open Int renaming toNat_natCast->C,tdiv->ZD
open ByteArray renaming empty->I,mk->ZB
open List renaming length->J,toArray->R,drop_zero->ZC
open Bool renaming not_true->U,false_eq_true->ZA
namespace Go.Proofs.Tryz
open Go Go.Sx
theorem Zcy:(YC:ByteArray)=k0:=rfl
def Yy(s:Qh)(x:ByteArray):Ath:=s.2.1.getD (aI s x).toNat dA
def Qs2(m:Mt)(s:Qh)(x:ByteArray):Int:=w64 (ZD (w64 (m.1-(Yy s x).2.2.1)) 365)
def elE(m:Mt)(s:Qh)(c:Cst)(x:ByteArray):Int:=
 if(!Qc c.2.2.1 k0&& !Qc c.2.2.1 (Yy s x).2.2.2)=true then 18
 else if m.1<(Yy s x).2.2.1∨Qs2 m s x<c.2.2.2.1∨c.2.2.2.2.1<Qs2 m s x then 18
 else if(s.2.2.1.any (U6 x m.1))=true then 0 else 7
theorem Zhe{F:Nat}(hF:700<=F){m:Mt}{s:Qh}(h:Zh s)(c:Cst){x:ByteArray}(hx:0<=aI s x):Qht F (s,m,c,x)=some (elE m s c x):=by
 have hF4:400<=F:=by omega
 obtain⟨k,h1,h2⟩:=Qeq hx;have hl:=h.l;have hd:Yf=dA:=rfl;have e3:∀a b c,Qy F (a::b::c::Qa Int)=some (Qi [a,b,c]):=fun a b c=>X9 hF4 (by simp[Qa]);have hA:s.2.1.getD k dA=Yy s x:=by unfold Yy;rw[h1];rfl
 have e147:=Zxi (F:=F) (l:=s.2.2.1) (by omega) (by omega) x m.1;unfold Qht elE Qs2;simp only[Za,Ko hF4 h,o,h1,hd,Zcy];simp(disch:=omega)only[Ze,C,hA,e147,Yt,e3,o];generalize Yy s x=a;generalize s.2.2.1.any (U6 x m.1)=lb;generalize w64 (ZD (w64 (m.1-a.2.2.1)) 365)=ag;cases Qc c.2.2.1 k0<;>cases Qc c.2.2.1 a.2.2.2<;>by_cases p1:m.1<a.2.2.1<;>by_cases p2:ag<c.2.2.2.1<;>by_cases p3:c.2.2.2.2.1<ag<;>cases lb<;>
  simp[p1,p2,p3,Qi,Vi,Qm4,Qj2,Zb]
theorem l59{F:Nat}(hF:700<=F){m:Mt}(hm:m.2.2.2.2.length<=300){s:Qh}(h:Zh s){x c:ByteArray}(hx:0<=aI s x)(hc:0<=cI m c):c59 F (m,s,x,c)=some (elE m s (Zl m c) x):=by
 have hF4:400<=F:=by omega
 obtain⟨k,h1,h2⟩:=Qeq hx;obtain⟨j,y,j1,j2,-,-⟩:=Wf hc;have j1':Xe (fun y:Cst=>Qc y.1 c) m.2.2.2.2=(j:Int):=j1;have hC:m.2.2.2.2.getD j dC=Zl m c:=by unfold Zl cI;rw[j1'];rfl
 have hl:=h.l;have hd:Yf=dA:=rfl;have hdC:Zf=dC:=rfl;have hA:s.2.1.getD k dA=Yy s x:=by unfold Yy;rw[h1];rfl
 have e68:=l68 (F:=F) (l:=s.2.2.1) (by omega) (by omega) x m.1;unfold c59 elE Qs2 tw;simp only[Za,l40 hF4 h,l47 (F:=F) (m:=m) (by omega) (by omega),o,h1,j1',hd,hdC,Zcy];simp(disch:=omega)only[Ze,C,hA,hC,e68,o];generalize Yy s x=a;generalize Zl m c=ct;generalize s.2.2.1.any (U6 x m.1)=lb;generalize w64 (ZD (w64 (m.1-a.2.2.1)) 365)=ag;cases Qc ct.2.2.1 k0<;>cases Qc ct.2.2.1 a.2.2.2<;>by_cases p1:m.1<a.2.2.1<;>by_cases p2:ag<ct.2.2.2.1<;>by_cases p3:ct.2.2.2.2.1<ag<;>cases lb<;>
  simp[p1,p2,p3,Vi,Qm4,Qj2,Zb]
def Qa1(s:Qh)(x:ByteArray):Int:=((s.2.2.2.1.filter fun e=>Qc e.1 x).length:Int)
theorem Zg4{F:Nat}(hF:400<=F){s:Qh}(h:Zh s)(x:ByteArray):Qie F (s,x)=some (Qa1 s x):=by
 have h1:=h.e;unfold Qie Qa1;simp only[tE];refine Jy s.2.2.2.1 (fun n j=>(n,(j:Int))) (fun y n=>.inl (if Qc y.1 x=true then n+1 else n)) (fun n=>n) (fun j n=>0<=n∧n<=j) 0 (by omega) rfl ⟨by omega,by omega⟩ ?_ ?_ ?_
 ·intro j y n hj hy hn;refine⟨?_,fun s' hs=>?_⟩
  ·simp(disch:=omega)only[Z1,Ze,C,getD_some hy,Zu];cases Qc y.1 x<;>rfl
  ·simp only[Sum.inl.injEq]at hs;subst hs;split<;>omega
 ·intro n _;simp(disch:=omega)only[Zz]
 ·rw[Qev (fun n (y:Qr)=>if Qc y.1 x=true then n+1 else n),Qwb (fun y:Qr=>Qc y.1 x),Int.zero_add]
theorem Zak{F:Nat}(hF:400<=F){s:Qh}(h:Zh s)(x:ByteArray):Qju F (s,x)=some (Qa1 s x):=by
 have h1:=h.e;unfold Qju Qa1;simp only[tE];refine Jy s.2.2.2.1 (fun n j=>(n,(j:Int))) (fun y n=>.inl (if Qc y.1 x=true then n+1 else n)) (fun n=>n) (fun j n=>0<=n∧n<=j) 0 (by omega) rfl ⟨by omega,by omega⟩ ?_ ?_ ?_
 ·intro j y n hj hy hn;refine⟨?_,fun s' hs=>?_⟩
  ·simp(disch:=omega)only[Z1,Ze,C,getD_some hy,Zu];cases Qc y.1 x<;>rfl
  ·simp only[Sum.inl.injEq]at hs;subst hs;split<;>omega
 ·intro n _;simp(disch:=omega)only[Zz]
 ·rw[Qev (fun n (y:Qr)=>if Qc y.1 x=true then n+1 else n),Qwb (fun y:Qr=>Qc y.1 x),Int.zero_add]
def Qaz(s:Qh)(b:Q0):Int:=if hasB s.1 b.2.2.1=true then 9 else 0
def Qan(s:Qh)(b:Q0):Int:=if hasB s.1 b.2.2.1=true then(if 0<=aI s b.2.1 then 9 else if b.1<b.2.2.2.2.2.1 then 3 else 0)else 10
def Qat(s:Qh)(b:Q0):Int:=if aI s b.2.1<0 then 10 else 0
def K1(s:Qh)(b:Q0):Int:=if aI s b.2.1<0 then 10 else if hasB s.1 b.2.2.1=true then(if Qc (Yy s b.2.1).2.1 b.2.2.1=true then 9 else if 0<Qa1 s b.2.1 then 19 else 0)else 10
theorem Yox{F:Nat}(hF:400<=F){m:Mt}{s:Qh}(h:Zh s)(k:ByteArray)(b:Q0):Qpl F (m,s,b.1,k,b.2)=some (Qaz s b):=by unfold Qpl Qaz;simp only[Za,Qjp hF h,Yt,o]
theorem Zzs{F:Nat}(hF:400<=F){m:Mt}{s:Qh}(h:Zh s)(k:ByteArray)(b:Q0):Qos F (m,s,b.1,k,b.2)=some (Qan s b):=by have e3:∀a b c,Qy F (a::b::c::Qa Int)=some (Qi [a,b,c]):=fun a b c=>X9 hF (by simp[Qa]);unfold Qos Qan;simp only[Za,Qjp hF h,Ko hF h,Yt,e3,o];cases hasB s.1 b.2.2.1<;>by_cases p1:0<=aI s b.2.1<;>by_cases p2:b.1<b.2.2.2.2.2.1<;>simp[p1,p2,Qi]
theorem Zwr{F:Nat}(hF:400<=F){m:Mt}{s:Qh}(h:Zh s)(k:ByteArray)(b:Q0):Qo7 F (m,s,b.1,k,b.2)=some (Qat s b):=by unfold Qo7 Qat;simp only[Za,Ko hF h,Yt,o,decide_eq_true_eq]
theorem Yg9{F:Nat}(hF:400<=F){m:Mt}{s:Qh}(h:Zh s)(k:ByteArray)(b:Q0):Qrk F (m,s,b.1,k,b.2)=some (K1 s b):=by
 have e2:∀a b,Qy F (a::b::Qa Int)=some (Qi [a,b]):=fun a b=>X9 hF (by simp[Qa]);unfold Qrk K1;simp only[Za,Ko hF h,Qjp hF h,o];by_cases p1:aI s b.2.1<0
 ·simp[p1]
 ·have hcl:Wz s b.2.1=(Yy s b.2.1).2.1:=rfl;simp only[p1,decide_false,cond_false,if_false,Qpf hF h (show 0<=aI s b.2.1 by omega),Zg4 hF h,hcl,Yt,e2,o];cases hasB s.1 b.2.2.1<;>cases Qc (Yy s b.2.1).2.1 b.2.2.1<;>by_cases p2:0<Qa1 s b.2.1<;>simp[p2,Qi]
theorem Qrn{F:Nat}(hF:400<=F){s:Qh}(h:Zh s)(k:ByteArray)(b:Q0):Qoh F (s,b.1,k,b.2)=some (if Qc k Yz=true then Qaz s b else if Qc k Yv=true then Qan s b else if Qc k Yo=true then K1 s b else Qat s b):=by
 have hd:Yf=dA:=rfl;have h1:=h.c;have e54:=l54 hF (l:=s.1) (by omega) b.2.2.1;unfold Qoh;simp only[Za,e54,l40 hF h,hd,Zak hF h,o];change (bif Qc k Yz then _ else _)=_;cases q1:Qc k Yz
 ·simp only[cond_false,ZA,if_false];change (bif Qc k Yv then _ else _)=_;cases q2:Qc k Yv
  ·simp only[cond_false,ZA,if_false];rw[show Qc k YD=Qc k Yo from rfl];cases q3:Qc k Yo
   ·unfold Qat;by_cases p1:aI s b.2.1<0<;>simp[p1]
   ·unfold K1 Yy;by_cases p1:aI s b.2.1<0
    ·simp[p1]
    ·obtain⟨j,j1,j2⟩:=Qeq (show 0<=aI s b.2.1 by omega);simp(disch:=omega)only[j1,p1,Ze,C];cases hasB s.1 b.2.2.1<;>cases Qc (s.2.1.getD j dA).2.1 b.2.2.1<;>by_cases p2:0<Qa1 s b.2.1<;>simp[p2,show¬((j:Nat):Int)<0 by omega]
  ·unfold Qan;cases hasB s.1 b.2.2.1<;>by_cases p1:0<=aI s b.2.1<;>by_cases p2:b.1<b.2.2.2.2.2.1<;>simp[p1,p2]
 ·unfold Qaz;cases hasB s.1 b.2.2.1<;>rfl
def Qh9(c:Cst):Mk:=(c.2.2.2.2.2.2.2.1,c.2.2.2.2.2.2.2.2.1,c.2.2.2.2.2.2.2.2.2.1)
def U4(b:Q0):Mk:=(b.2.2.2.2.2.2.2.1,b.2.2.2.2.2.2.2.2.1,b.2.2.2.2.2.2.2.2.2.1)
theorem Zjr{m:Mt}(hv:Z9 m=0){x:ByteArray}(hc:0<=cI m x):Jn (Qh9 (Zl m x))∧X8 (Zl m x).2.1 (Zl m x).2.2.2.2.2.2.2.1=true:=by
 obtain⟨j,y,j1,j2,-,-⟩:=Wf hc;have j1':cI m x=(j:Int):=j1;have hC:m.2.2.2.2.getD j dC=Zl m x:=by unfold Zl;rw[j1'];rfl
 unfold Z9 at hv;split at hv
 ·cases hv
 ·split at hv
  ·cases hv
  ·split at hv
   ·cases hv
   ·split at hv
    ·cases hv
    ·have h:=Xm hv _ (List.mem_map.2 ⟨j,List.mem_range.2 j2,rfl⟩);unfold W4 at h;rw[hC]at h;split at h
     ·split at h
      ·cases h
      ·unfold Qjd at h;split at h
       ·cases h
       ·split at h
        ·cases h
        ·split at h
         ·cases h
         ·split at h
          ·cases h
          ·split at h
           ·cases h
           ·split at h
            ·rename_i hm1;split at h
             ·rename_i hm2;exact⟨hm1,hm2⟩
             ·cases h
            ·rename_i hm1;exact absurd h hm1
     ·cases h
theorem Ymi{m:Mt}{s:Qh}(hv:stE m s=0):Z9 m=0:=by
 by_cases h:Z9 m=0
 ·exact h
 ·rw[stE,if_neg h]at hv;exact absurd hv h
theorem Zik{k:ByteArray}{x y:Mk}(h1:X8 k x.1=true)(h2:X8 k y.1=true):Qdk x y:=by
 unfold X8 at h1 h2;simp only[Bool.or_eq_true]at h1 h2;unfold Qdk;rcases h1 with h1|h1
 ·rcases h2 with h2|h2
  ·right;right;rw[Y1.1 h1,Y1.1 h2];exact Wr _
  ·exact .inr (.inl h2)
 ·exact .inl h1
def Qa6(m:Mt)(s:Qh)(b:Q0):Int:=
 if aI s b.2.1<0∨cI m b.2.2.2.2.1<0 then 10
 else if 0<(Zl m b.2.2.2.2.1).2.2.2.2.2.2.2.2.2.2 then 13
 else if b.1<m.2.1∨m.2.2.1<b.1 then 19
 else if 0<=eI s b.2.1 b.2.2.2.2.1 then 9
 else if elE m s (Zl m b.2.2.2.2.1) b.2.1=0 then
  (if X8 (Zl m b.2.2.2.2.1).2.1 b.2.2.2.2.2.2.2.1 = true then
   (if Qc (Zl m b.2.2.2.2.1).2.2.2.2.2.2.2.1 kN=false∧0<Wt (wE (U4 b)) (wE (Qh9 (Zl m b.2.2.2.2.1)))then 30 else if m.2.2.2.1<=Qa1 s b.2.1 then 5 else 0)
   else 30)
 else elE m s (Zl m b.2.2.2.2.1) b.2.1
theorem Zh3:(YN:ByteArray)=kN:=rfl
theorem Zpe{F:Nat}(hF:700<=F){m:Mt}(hm:m.2.2.2.2.length<=300){s:Qh}(h:Zh s)(k:ByteArray){b:Q0}(hv:Z9 m=0)(hb:Jn (U4 b)):Qs9 F (m,s,b.1,k,b.2)=some (Qa6 m s b):=by
 have hF4:400<=F:=by omega
 have e2:∀a b,Qy F (a::b::Qa Int)=some (Qi [a,b]):=fun a b=>X9 hF4 (by simp[Qa]);have e5:∀a b c d e,Qy F (a::b::c::d::e::Qa Int)=some (Qi [a,b,c,d,e]):=fun a b c d e=>X9 hF4 (by simp[Qa]);unfold Qs9 Qa6;simp only[Za,Qjn hF4 hm,o];by_cases hc:cI m b.2.2.2.2.1<0
 ·simp[hc]
 ·obtain⟨s1,s2⟩:=Zjr hv (show 0<=cI m b.2.2.2.2.1 by omega);simp only[hc,if_false,U,cond_false,or_false,Ko hF4 h,o];generalize Zl m b.2.2.2.2.1=ct at s1 s2;by_cases ha:aI s b.2.1<0
  ·simp[ha]
  ·simp only[ha,decide_false,cond_false,if_false,Yt,Qij hF4 h,Zhe hF h ct (show 0<=aI s b.2.1 by omega),Qwk,Zg4 hF4 h,e2,e5,o,Zh3];generalize hel:elE m s ct b.2.1=el;by_cases p1:0<ct.2.2.2.2.2.2.2.2.2.2
   ·by_cases p2:b.1<m.2.1<;>simp[p1,p2,Qi]
   ·by_cases p2:b.1<m.2.1
    ·simp[p1,p2,Qi]
    ·by_cases p3:m.2.2.1<b.1
     ·simp[p1,p2,p3,Qi]
     ·by_cases p4:0<=eI s b.2.1 b.2.2.2.2.1
      ·simp[p1,p2,p3,p4,Qi]
      ·by_cases p5:el=0
       ·cases p6:X8 ct.2.1 b.2.2.2.2.2.2.2.1 with
        |false=>simp[p1,p2,p3,p4,p5,p6,Qi]
        |true=>have e205:=Zc1 hF4 hb s1 (Zik (k:=ct.2.1) p6 s2);simp only[U4,Qh9]at e205;simp only[p1,p2,p3,p4,p5,p6,Qi,or_false,if_false,if_true,decide_true,decide_false,U,ZA,cond_false,o,e205,U4,Qh9];cases Qc ct.2.2.2.2.2.2.2.1 kN<;>by_cases p7:0<Wt (wE (b.2.2.2.2.2.2.2.1,b.2.2.2.2.2.2.2.2.1,b.2.2.2.2.2.2.2.2.2.1)) (wE (ct.2.2.2.2.2.2.2.1,ct.2.2.2.2.2.2.2.2.1,ct.2.2.2.2.2.2.2.2.2.1))<;>by_cases p8:m.2.2.2.1<=Qa1 s b.2.1<;>simp[p7,p8,Qi]
       ·simp[p1,p2,p3,p4,p5,Qi]
theorem Yq1{F:Nat}(hF:700<=F){m:Mt}(hm:m.2.2.2.2.length<=300){s:Qh}(h:Zh s)(k:ByteArray){b:Q0}(hv:Z9 m=0)(hb:Jn (U4 b)):Qsb F (m,s,b.1,k,b.2)=some (Qa6 m s b):=by
 have hF4:400<=F:=by omega
 have hdC:Zf=dC:=rfl;have e47:c47 F (m,b.2.2.2.2.1)=some (cI m b.2.2.2.2.1):=l47 (by omega) (by omega) _;unfold Qsb Qa6;simp only[Za,e47,l40 hF4 h,hdC,o,Zh3];by_cases ha:aI s b.2.1<0
 ·simp[ha]
 ·by_cases hc:cI m b.2.2.2.2.1<0
  ·simp[ha,hc]
  ·obtain⟨s1,s2⟩:=Zjr hv (show 0<=cI m b.2.2.2.2.1 by omega);obtain⟨j,y,j1,j2,-,-⟩:=Wf (p:=fun y:Cst=>Qc y.1 b.2.2.2.2.1) (l:=m.2.2.2.2) (show 0<=cI m b.2.2.2.2.1 by omega);have j1':cI m b.2.2.2.2.1=(j:Int):=j1;have hC:m.2.2.2.2.getD j dC=Zl m b.2.2.2.2.1:=by unfold Zl;rw[j1'];rfl
   have hnn:¬((j:Nat):Int)<0:=by omega
   simp only[ha,j1',hnn,or_self,decide_false,cond_false,if_false,o,l59 hF hm h (show 0<=aI s b.2.1 by omega) (show 0<=cI m b.2.2.2.2.1 by omega),l53 hF4 h,Qud,Zak hF4 h];simp(disch:=omega)only[Ze,C,hC];generalize Zl m b.2.2.2.2.1=ct at s1 s2;generalize hel:elE m s ct b.2.1=el;by_cases p1:0<ct.2.2.2.2.2.2.2.2.2.2
   ·simp[p1]
   ·by_cases p2:b.1<m.2.1
    ·simp[p1,p2]
    ·by_cases p3:m.2.2.1<b.1
     ·simp[p1,p2,p3]
     ·by_cases p4:0<=eI s b.2.1 b.2.2.2.2.1
      ·simp[p1,p2,p3,p4]
      ·by_cases p5:el=0
       ·cases p6:X8 ct.2.1 b.2.2.2.2.2.2.2.1 with
        |false=>simp[p1,p2,p3,p4,p5,p6]
        |true=>have e57:=l57 F hb s1 (Zik (k:=ct.2.1) p6 s2);simp only[U4,Qh9]at e57;simp only[p1,p2,p3,p4,p5,p6,or_false,if_false,if_true,decide_true,decide_false,U,ZA,cond_false,o,e57,U4,Qh9];cases Qc ct.2.2.2.2.2.2.2.1 kN<;>by_cases p7:0<Wt (wE (b.2.2.2.2.2.2.2.1,b.2.2.2.2.2.2.2.2.1,b.2.2.2.2.2.2.2.2.2.1)) (wE (ct.2.2.2.2.2.2.2.1,ct.2.2.2.2.2.2.2.2.1,ct.2.2.2.2.2.2.2.2.2.1))<;>by_cases p8:m.2.2.2.1<=Qa1 s b.2.1<;>simp[p7,p8]
       ·simp[p1,p2,p3,p4,p5]
def Uq(m:Mt)(s:Qh)(b:Q0):Int:=if eI s b.2.1 b.2.2.2.2.1<0 then 10 else if m.1<b.1 then 20 else 0
def Vn(s:Qh)(a c:ByteArray):Qr:=s.2.2.2.1.getD (eI s a c).toNat dE
def Uy(m:Mt)(s:Qh)(b:Q0):Int:=if eI s b.2.1 b.2.2.2.2.1<0 then 10 else if(Vn s b.2.1 b.2.2.2.2.1).2.2.2.2.2.2=true then 9 else if b.1=m.1 then 0 else 19
theorem Ygk{F:Nat}(hF:400<=F){m:Mt}{s:Qh}(h:Zh s)(k:ByteArray)(b:Q0):Qs7 F (m,s,b.1,k,b.2)=some (Uq m s b):=by have e2:∀a b,Qy F (a::b::Qa Int)=some (Qi [a,b]):=fun a b=>X9 hF (by simp[Qa]);unfold Qs7 Uq;simp only[Za,Qij hF h,Yt,e2,o];by_cases p1:eI s b.2.1 b.2.2.2.2.1<0<;>by_cases p2:m.1<b.1<;>simp[p1,p2,Qi]
theorem Zp3{F:Nat}(hF:400<=F){m:Mt}{s:Qh}(h:Zh s)(k:ByteArray)(b:Q0):Qo4 F (m,s,b.1,k,b.2)=some (Uy m s b):=by
 have e2:∀a b,Qy F (a::b::Qa Int)=some (Qi [a,b]):=fun a b=>X9 hF (by simp[Qa]);unfold Qo4 Uy Vn;simp only[Za,tE,Qij hF h,Yt,e2,o];by_cases p1:eI s b.2.1 b.2.2.2.2.1<0
 ·simp[p1]
 ·obtain⟨j,y,j1,j2,-,-⟩:=Wf (p:=eP b.2.1 b.2.2.2.2.1) (l:=s.2.2.2.1) (show 0<=eI s b.2.1 b.2.2.2.2.1 by omega);have j1':eI s b.2.1 b.2.2.2.2.1=(j:Int):=j1;have hnn:¬((j:Nat):Int)<0:=by omega
  simp(disch:=omega)only[j1',hnn,decide_false,cond_false,if_false,Ze,C];cases(s.2.2.2.1.getD j dE).2.2.2.2.2.2<;>by_cases p2:b.1=m.1<;>simp[p2,Qi]
def teE(m:Mt)(s:Qh)(b:Q0)(i:Nat):Int:=
 if aI s (b.2.2.2.2.2.2.2.2.2.2.getD i I)<0 then 10
 else if Qc (Yy s (b.2.2.2.2.2.2.2.2.2.2.getD i I)).2.1 b.2.2.1=true then
  (if hasB (b.2.2.2.2.2.2.2.2.2.2.take i) (b.2.2.2.2.2.2.2.2.2.2.getD i I)=true then 9 else elE m s (Zl m b.2.2.2.2.1) (b.2.2.2.2.2.2.2.2.2.2.getD i I))
 else 18
def Qbe(m:Mt)(s:Qh)(b:Q0):Int:=
 if hasB s.1 b.2.2.1=false∨cI m b.2.2.2.2.1<0 then 10
 else if(Zl m b.2.2.2.2.1).2.2.2.2.2.2.2.2.2.2=0 then 13
 else if m.1<b.1 then 20
 else if(b.2.2.2.2.2.2.2.2.2.2.length:Int)=(Zl m b.2.2.2.2.1).2.2.2.2.2.2.2.2.2.2 then Qi ((List.range b.2.2.2.2.2.2.2.2.2.2.length).map (teE m s b))else 2
theorem Yk5{F:Nat}(hF:700<=F){m:Mt}{s:Qh}(h:Zh s)(k:ByteArray){b:Q0}(hb:b.2.2.2.2.2.2.2.2.2.2.length<=10){i:Nat}(hi:i<b.2.2.2.2.2.2.2.2.2.2.length):
  Qsx F ((i:Int),b.2.2.2.2.2.2.2.2.2.2.getD i I,s,(b.1,k,b.2),m,Zl m b.2.2.2.2.1)=some (teE m s b i):=by
 have hF4:400<=F:=by omega
 have e3:∀a b c,Qy F (a::b::c::Qa Int)=some (Qi [a,b,c]):=fun a b c=>X9 hF4 (by simp[Qa]);have hi':(i:Int)<=b.2.2.2.2.2.2.2.2.2.2.length:=by omega
 have e107:=Qre hF4 (l:=b.2.2.2.2.2.2.2.2.2.2.take i) (x:=b.2.2.2.2.2.2.2.2.2.2.getD i I) (by simp;omega);unfold Qsx teE;generalize b.2.2.2.2.2.2.2.2.2.2.getD i I=x at e107;simp only[Za,Ko hF4 h,o,C,ZC];by_cases p1:aI s x<0
 ·simp[p1]
 ·have ha:0<=aI s x:=by omega
  have hcl:Wz s x=(Yy s x).2.1:=rfl;simp(disch:=omega)only[p1,decide_false,cond_false,if_false,Ze,e107,Qpf hF4 h ha,hcl,Zhe hF h _ ha,Yt,e3,o];generalize elE m s (Zl m b.2.2.2.2.1) x=el;cases Qc (Yy s x).2.1 b.2.2.1<;>cases hasB (b.2.2.2.2.2.2.2.2.2.2.take i) x<;>by_cases p2:el=0<;>simp[p2,Qi]
theorem Yjf{F:Nat}(hF:700<=F){m:Mt}(hm:m.2.2.2.2.length<=300){s:Qh}(h:Zh s)(k:ByteArray){b:Q0}(hb:b.2.2.2.2.2.2.2.2.2.2.length<=10):Qtc F (m,s,b.1,k,b.2)=some (Qbe m s b):=by
 have hF4:400<=F:=by omega
 have e4:∀a b c d,Qy F (a::b::c::d::Qa Int)=some (Qi [a,b,c,d]):=fun a b c d=>X9 hF4 (by simp[Qa]);unfold Qtc Qbe;simp only[Za,Qjn hF4 hm,Qjp hF4 h,Yt,e4,o];by_cases hc:cI m b.2.2.2.2.1<0
 ·simp[hc,Qi]
 ·simp only[hc,if_false,U,cond_false,or_false];have e100:Qq3 F (b.2.2.2.2.2.2.2.2.2.2,s,(b.1,k,b.2),m,Zl m b.2.2.2.2.1)=some (Qi ((List.range b.2.2.2.2.2.2.2.2.2.2.length).map (teE m s b))):=by
   unfold Qq3;refine Qab b.2.2.2.2.2.2.2.2.2.2.length (teE m s b) (by omega) (by omega) ?_ ?_ (Qcw _)
   ·intro i hi;simp(disch:=omega)only[Z1,Ze,C,Zu,Za,Yk5 hF h k hb hi,o,Qdb]
   ·simp(disch:=omega)only[Zz]
  simp only[e100,o];generalize Zl m b.2.2.2.2.1=ct;cases hasB s.1 b.2.2.1<;>by_cases p1:ct.2.2.2.2.2.2.2.2.2.2=0<;>by_cases p2:m.1<b.1<;>by_cases p3:(b.2.2.2.2.2.2.2.2.2.2.length:Int)=ct.2.2.2.2.2.2.2.2.2.2<;>simp[p1,p2,p3,Qi]
theorem Zqw{F:Nat}(hF:700<=F){m:Mt}(hm:m.2.2.2.2.length<=300){s:Qh}(h:Zh s)(k:ByteArray){b:Q0}(hb:b.2.2.2.2.2.2.2.2.2.2.length<=10):Qso F (m,s,b.1,k,b.2)=some (Qbe m s b):=by
 have hF4:400<=F:=by omega
 have hdC:Zf=dC:=rfl;have hdA:Yf=dA:=rfl;have e47:c47 F (m,b.2.2.2.2.1)=some (cI m b.2.2.2.2.1):=l47 (by omega) (by omega) _;have h1:=h.c;have e54:=l54 hF4 (l:=s.1) (by omega) b.2.2.1;unfold Qso Qbe;simp only[Za,e47,e54,hdC,hdA,o];cases hasB s.1 b.2.2.1
 ·simp
 ·by_cases hc:cI m b.2.2.2.2.1<0
  ·simp[hc]
  ·obtain⟨j,y,j1,j2,-,-⟩:=Wf (p:=fun y:Cst=>Qc y.1 b.2.2.2.2.1) (l:=m.2.2.2.2) (show 0<=cI m b.2.2.2.2.1 by omega);have j1':cI m b.2.2.2.2.1=(j:Int):=j1;have hC:m.2.2.2.2.getD j dC=Zl m b.2.2.2.2.1:=by unfold Zl;rw[j1'];rfl
   have hnn:¬((j:Nat):Int)<0:=by omega
   simp(disch:=omega)only[j1',hnn,U,Bool.true_eq_false,or_self,decide_false,cond_false,if_false,o,Ze,C,hC];by_cases p1:(Zl m b.2.2.2.2.1).2.2.2.2.2.2.2.2.2.2=0
   ·simp[p1]
   ·by_cases p2:m.1<b.1
    ·simp[p1,p2]
    ·by_cases p3:(b.2.2.2.2.2.2.2.2.2.2.length:Int)=(Zl m b.2.2.2.2.1).2.2.2.2.2.2.2.2.2.2
     ·simp only[p1,p2,p3,decide_true,decide_false,U,cond_false,if_false,if_true];rw[<-p3];refine Qab b.2.2.2.2.2.2.2.2.2.2.length (teE m s b) (by omega) (by omega) ?_ ?_ (Qcw _)
      ·intro i hi;have hi':(i:Int)<=b.2.2.2.2.2.2.2.2.2.2.length:=by omega
       have e54b:=fun x=>l54 hF4 (l:=b.2.2.2.2.2.2.2.2.2.2.take i) (by simp;omega) x;unfold teE Yy;simp(disch:=omega)only[Z1,Ze,C,Zu,l40 hF4 h,ZC,e54b,o];generalize b.2.2.2.2.2.2.2.2.2.2.getD i I=x;by_cases q1:aI s x<0
       ·simp[q1]
       ·have ha:0<=aI s x:=by omega
        obtain⟨ka,k1,k2⟩:=Qeq ha;have el:=l59 hF hm h ha (show 0<=cI m b.2.2.2.2.1 by omega);simp(disch:=omega)only[el,k1,Ze,C,show¬((ka:Nat):Int)<0 by omega,decide_false,cond_false,if_false,o];generalize elE m s (Zl m b.2.2.2.2.1) x=el;cases Qc (s.2.1.getD ka dA).2.1 b.2.2.1<;>cases hasB (b.2.2.2.2.2.2.2.2.2.2.take i) x<;>by_cases q2:el=0<;>simp[q2]
      ·simp(disch:=omega)only[Zz]
     ·simp[p1,p2,p3]
end Go.Proofs.Tryz
section
namespace Go.Proofs.Tryz
open Go Go.Sx
end Go.Proofs.Tryz
end
section
namespace Go.Proofs.Tryz
open Go Go.Sx
noncomputable section
def Zi7(F:Nat):LK:=lN
def Qk5(F:Nat)(a:List ByteArray):Option (List ByteArray):=
 bif decide (a.length=0)then((gd (decide (J (Qa ByteArray++a)*(16:Nat)<=(140737488355328:Nat))) (gd (decide (J (Qa ByteArray++a)<=9223372036854775807)) (gd (decide ((0:Nat)+J (Qa ByteArray++a)<=J (Qa ByteArray++a))) (some (List.take (J (Qa ByteArray++a)) (List.drop (0:Nat) (Qa ByteArray++a))))))).bind fun(v4:List ByteArray)=>gd (Qt.eqv (Qe.val (Ty.seq Z3)::Qa Qe) (Qa ByteArray) v4) (some (Qa ByteArray)))else(gd (decide (J (Qa ByteArray++a)*(16:Nat)<=(140737488355328:Nat))) (gd (decide (J (Qa ByteArray++a)<=9223372036854775807)) (gd (decide ((0:Nat)+J (Qa ByteArray++a)<=J (Qa ByteArray++a))) (some (List.take (J (Qa ByteArray++a)) (List.drop (0:Nat) (Qa ByteArray++a)))))))
def Ygi(F:Nat):PC:={ats:=Qb3,rts:=Qb3,code:=Qk5 F}
theorem Zn4(F:Nat)(a:List ByteArray):Z6 cx (Zi7 F).x 1000 .leaf f150 (Qs f150) Qb3 Qb3 a=Qk5 F a:=by kernel_rfl
theorem Zis(F:Nat):Qg cx 150 (Ygi F):=Qg.Yg Yh (Zi7 F).ok (n:=1000) (an:=.leaf) (fn:=f150) (c:=Qs f150) (by kernel_rfl) (by kernel_rfl) (fun a y h=>(Zn4 F a).trans h) (by kernel_rfl)
end
end Go.Proofs.Tryz
end
section
namespace Go.Proofs.Tryz
open Go Go.Sx
noncomputable section
end
end Go.Proofs.Tryz
end
namespace Go.Proofs.Tryz
open Go Go.Sx
theorem Zr2{F:Nat}{l:List ByteArray}(h:l.length<=1000):Qk5 F l=some l:=by
 have e:Qa ByteArray++l=l:=rfl;have h1:l.length*16<=140737488355328:=by omega
 have h2:l.length<=9223372036854775807:=by omega
 unfold Qk5;simp only[e,h1,h2,Nat.zero_add,Nat.le_refl,decide_true,Zb,ZC,List.take_length,o];by_cases h0:l.length=0
 ·obtain rfl:=List.eq_nil_of_length_eq_zero h0;rfl
 ·simp only[h0,decide_false,cond_false]
noncomputable def Zt5(F:Nat):LK:=lN
noncomputable def c81(F:Nat)(a:PUnit):Option (Zr):=
 some (((8000:Int),(7900:Int),(7990:Int),(2:Int),({data:=R (115::112::114::105::110::116::Qa UInt8)},YL,(ZB (R (Qa UInt8))),(16:Int),(40:Int),(2:Int),(1:Int),YL,(120000:Int),(ZB (R (Qa UInt8))),(0:Int))::({data:=R (106::117::109::112::Qa UInt8)},YM,(ZB (R (Qa UInt8))),(16:Int),(40:Int),(8:Int),(2:Int),YN,(0:Int),YR,(0:Int))::({data:=R (114::101::108::97::121::Qa UInt8)},YL,(ZB (R (Qa UInt8))),(16:Int),(40:Int),(8:Int),(1:Int),YN,(0:Int),YR,(2:Int))::Qa (Yk)))
noncomputable def Zfz(F:Nat):PC:={ats:=[],rts:=[.agg Xo],code:=c81 F}
theorem Ye9(F:Nat):Qg cx 81 (Zfz F):=qE (Zt5 F) .leaf f81 (by kernel_rfl) fun a=>by kernel_rfl
noncomputable def Zz9(F:Nat):LK:=lN
noncomputable def c83(F:Nat)(a:Int):Option (ByteArray×Int×ByteArray):=
 some ((YL,w64 ((100:Int)*a),(ZB (R (Qa UInt8)))))
noncomputable def Qyy(F:Nat):PC:={ats:=Zo,rts:=[.agg kt7],code:=c83 F}
theorem Zdn(F:Nat):Qg cx 83 (Qyy F):=qE (Zz9 F) .leaf f83 (by kernel_rfl) fun a=>by kernel_rfl
end Go.Proofs.Tryz
