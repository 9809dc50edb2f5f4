/- Plain law: who is eligible; acts that are legal, about a club, an athlete, a licence. Plain law: entries, withdrawals, checks and teams that are legal. And further parts. -/
import Derived.Test.YtpkbmngnolhopaaGreatDoorXT3i
import Derived.Test.YtpkbmngnolhopaaGreatDoorXT3n
set_option maxRecDepth 100000
set_option linter.unusedVariables false
set_option linter.unusedSimpArgs false
set_option linter.all false
open Option renaming bind_some->o
open List renaming length->C,toArray->R,take->ZB,drop->ZC,drop_zero->ZE
open Int renaming toNat_natCast->I,tdiv->ZF
open ByteArray renaming empty->J,mk->ZD
open Bool renaming not_true->U,false_eq_true->ZA
namespace Go.Proofs.Tryz
open Go Go.Sx
theorem Zhm:(YD:ByteArray)=k0:=rfl
def Y1(s:Qj)(x:ByteArray):Ath:=s.2.1.getD (aI s x).toNat dA
def Qo9(m:Mt)(s:Qj)(x:ByteArray):Int:=w64 (ZF (w64 (m.1-(Y1 s x).2.2.1)) 365)
def elE(m:Mt)(s:Qj)(c:Cst)(x:ByteArray):Int:=
 if(!Qc c.2.2.1 k0&& !Qc c.2.2.1 (Y1 s x).2.2.2)=true then 18
 else if m.1<(Y1 s x).2.2.1∨Qo9 m s x<c.2.2.2.1∨c.2.2.2.2.1<Qo9 m s x then 18
 else if(s.2.2.1.any (U4 x m.1))=true then 0 else 7
theorem Zbw{F:Nat}(hF:700<=F){m:Mt}{s:Qj}(h:Za s)(c:Cst){x:ByteArray}(hx:0<=aI s x):Qjb F (s,m,c,x)=some (elE m s c x):=by
 have hF4:400<=F:=by omega
 obtain⟨k,h1,h2⟩:=Qfq hx;have hl:=h.l;have hd:Zy=dA:=rfl;have e3:∀a b c,Q2 F (a::b::c::Qa Int)=some (Qk [a,b,c]):=fun a b c=>Jb hF4 (by simp[Qa]);have hA:s.2.1.getD k dA=Y1 s x:=by unfold Y1;rw[h1];rfl
 have e147:=Zu9 (F:=F) (l:=s.2.2.1) (by omega) (by omega) x m.1;unfold Qjb elE Qo9;simp only[Q3,K4 hF4 h,o,h1,hd,Zhm];simp(disch:=omega)only[Zf,I,hA,e147,l86,e3,o];generalize Y1 s x=a;generalize s.2.2.1.any (U4 x m.1)=lb;generalize w64 (ZF (w64 (m.1-a.2.2.1)) 365)=ag;cases Qc c.2.2.1 k0<;>cases Qc c.2.2.1 a.2.2.2<;>by_cases p1:m.1<a.2.2.1<;>by_cases p2:ag<c.2.2.2.1<;>by_cases p3:c.2.2.2.2.1<ag<;>cases lb<;>
  simp[p1,p2,p3,Qk,Vv,Qkd,Qms,Zh]
theorem l59{F:Nat}(hF:700<=F){m:Mt}(hm:m.2.2.2.2.length<=300){s:Qj}(h:Za s){x c:ByteArray}(hx:0<=aI s x)(hc:0<=cI m c):c59 F (m,s,x,c)=some (elE m s (Z3 m c) x):=by
 have hF4:400<=F:=by omega
 obtain⟨k,h1,h2⟩:=Qfq hx;obtain⟨j,y,j1,j2,-,-⟩:=W1 hc;have j1':Y9 (fun y:Cst=>Qc y.1 c) m.2.2.2.2=(j:Int):=j1;have hC:m.2.2.2.2.getD j dC=Z3 m c:=by unfold Z3 cI;rw[j1'];rfl
 have hl:=h.l;have hd:Zy=dA:=rfl;have hdC:Zd=dC:=rfl;have hA:s.2.1.getD k dA=Y1 s x:=by unfold Y1;rw[h1];rfl
 have e68:=l68 (F:=F) (l:=s.2.2.1) (by omega) (by omega) x m.1;unfold c59 elE Qo9 tw;simp only[Q3,l40 hF4 h,l47 (F:=F) (m:=m) (by omega) (by omega),o,h1,j1',hd,hdC,Zhm];simp(disch:=omega)only[Zf,I,hA,hC,e68,o];generalize Y1 s x=a;generalize Z3 m c=ct;generalize s.2.2.1.any (U4 x m.1)=lb;generalize w64 (ZF (w64 (m.1-a.2.2.1)) 365)=ag;cases Qc ct.2.2.1 k0<;>cases Qc ct.2.2.1 a.2.2.2<;>by_cases p1:m.1<a.2.2.1<;>by_cases p2:ag<ct.2.2.2.1<;>by_cases p3:ct.2.2.2.2.1<ag<;>cases lb<;>
  simp[p1,p2,p3,Vv,Qkd,Qms,Zh]
def Qas(s:Qj)(x:ByteArray):Int:=((s.2.2.2.1.filter fun e=>Qc e.1 x).length:Int)
theorem Zhu{F:Nat}(hF:400<=F){s:Qj}(h:Za s)(x:ByteArray):Qjq F (s,x)=some (Qas s x):=by
 have h1:=h.e;unfold Qjq Qas;simp only[tE];refine Jh s.2.2.2.1 (fun n j=>(n,(j:Int))) (fun y n=>.inl (if Qc y.1 x=true then n+1 else n)) (fun n=>n) (fun j n=>0<=n∧n<=j) 0 (by omega) rfl ⟨by omega,by omega⟩ ?_ ?_ ?_
 ·intro j y n hj hy hn;refine⟨?_,fun s' hs=>?_⟩
  ·simp(disch:=omega)only[Zx,Zf,I,getD_some hy,Zv];cases Qc y.1 x<;>rfl
  ·simp only[Sum.inl.injEq]at hs;subst hs;split<;>omega
 ·intro n _;simp(disch:=omega)only[Zz]
 ·rw[Qi4 (fun n (y:Zo)=>if Qc y.1 x=true then n+1 else n),Quz (fun y:Zo=>Qc y.1 x),Int.zero_add]
theorem Zdw{F:Nat}(hF:400<=F){s:Qj}(h:Za s)(x:ByteArray):Qk0 F (s,x)=some (Qas s x):=by
 have h1:=h.e;unfold Qk0 Qas;simp only[tE];refine Jh s.2.2.2.1 (fun n j=>(n,(j:Int))) (fun y n=>.inl (if Qc y.1 x=true then n+1 else n)) (fun n=>n) (fun j n=>0<=n∧n<=j) 0 (by omega) rfl ⟨by omega,by omega⟩ ?_ ?_ ?_
 ·intro j y n hj hy hn;refine⟨?_,fun s' hs=>?_⟩
  ·simp(disch:=omega)only[Zx,Zf,I,getD_some hy,Zv];cases Qc y.1 x<;>rfl
  ·simp only[Sum.inl.injEq]at hs;subst hs;split<;>omega
 ·intro n _;simp(disch:=omega)only[Zz]
 ·rw[Qi4 (fun n (y:Zo)=>if Qc y.1 x=true then n+1 else n),Quz (fun y:Zo=>Qc y.1 x),Int.zero_add]
def Wx(s:Qj)(b:Qx):Int:=if hasB s.1 b.2.2.1=true then 9 else 0
def Wy(s:Qj)(b:Qx):Int:=if hasB s.1 b.2.2.1=true then(if 0<=aI s b.2.1 then 9 else if b.1<b.2.2.2.2.2.1 then 3 else 0)else 10
def Wp(s:Qj)(b:Qx):Int:=if aI s b.2.1<0 then 10 else 0
def Jm(s:Qj)(b:Qx):Int:=if aI s b.2.1<0 then 10 else if hasB s.1 b.2.2.1=true then(if Qc (Y1 s b.2.1).2.1 b.2.2.1=true then 9 else if 0<Qas s b.2.1 then 19 else 0)else 10
theorem Zyl{F:Nat}(hF:400<=F){m:Mt}{s:Qj}(h:Za s)(k:ByteArray)(b:Qx):Qrp F (m,s,b.1,k,b.2)=some (Wx s b):=by unfold Qrp Wx;simp only[Q3,Qiy hF h,l86,o]
theorem Zx4{F:Nat}(hF:400<=F){m:Mt}{s:Qj}(h:Za s)(k:ByteArray)(b:Qx):Qoq F (m,s,b.1,k,b.2)=some (Wy s b):=by have e3:∀a b c,Q2 F (a::b::c::Qa Int)=some (Qk [a,b,c]):=fun a b c=>Jb hF (by simp[Qa]);unfold Qoq Wy;simp only[Q3,Qiy hF h,K4 hF h,l86,e3,o];cases hasB s.1 b.2.2.1<;>by_cases p1:0<=aI s b.2.1<;>by_cases p2:b.1<b.2.2.2.2.2.1<;>simp[p1,p2,Qk]
theorem Yb7{F:Nat}(hF:400<=F){m:Mt}{s:Qj}(h:Za s)(k:ByteArray)(b:Qx):Qq0 F (m,s,b.1,k,b.2)=some (Wp s b):=by unfold Qq0 Wp;simp only[Q3,K4 hF h,l86,o,decide_eq_true_eq]
theorem Zo2{F:Nat}(hF:400<=F){m:Mt}{s:Qj}(h:Za s)(k:ByteArray)(b:Qx):Qpo F (m,s,b.1,k,b.2)=some (Jm s b):=by
 have e2:∀a b,Q2 F (a::b::Qa Int)=some (Qk [a,b]):=fun a b=>Jb hF (by simp[Qa]);unfold Qpo Jm;simp only[Q3,K4 hF h,Qiy hF h,o];by_cases p1:aI s b.2.1<0
 ·simp[p1]
 ·have hcl:Qnx s b.2.1=(Y1 s b.2.1).2.1:=rfl;simp only[p1,decide_false,cond_false,if_false,Zkr hF h (show 0<=aI s b.2.1 by omega),Zhu hF h,hcl,l86,e2,o];cases hasB s.1 b.2.2.1<;>cases Qc (Y1 s b.2.1).2.1 b.2.2.1<;>by_cases p2:0<Qas s b.2.1<;>simp[p2,Qk]
theorem Qpk{F:Nat}(hF:400<=F){s:Qj}(h:Za s)(k:ByteArray)(b:Qx):Qr1 F (s,b.1,k,b.2)=some (if Qc k Yl=true then Wx s b else if Qc k Yh=true then Wy s b else if Qc k Yc=true then Jm s b else Wp s b):=by
 have hd:Zy=dA:=rfl;have h1:=h.c;have e54:=l54 hF (l:=s.1) (by omega) b.2.2.1;unfold Qr1;simp only[Q3,e54,l40 hF h,hd,Zdw hF h,o];change (bif Qc k Yl then _ else _)=_;cases q1:Qc k Yl
 ·simp only[cond_false,ZA,if_false];change (bif Qc k Yh then _ else _)=_;cases q2:Qc k Yh
  ·simp only[cond_false,ZA,if_false];rw[show Qc k YE=Qc k Yc from rfl];cases q3:Qc k Yc
   ·unfold Wp;by_cases p1:aI s b.2.1<0<;>simp[p1]
   ·unfold Jm Y1;by_cases p1:aI s b.2.1<0
    ·simp[p1]
    ·obtain⟨j,j1,j2⟩:=Qfq (show 0<=aI s b.2.1 by omega);simp(disch:=omega)only[j1,p1,Zf,I];cases hasB s.1 b.2.2.1<;>cases Qc (s.2.1.getD j dA).2.1 b.2.2.1<;>by_cases p2:0<Qas s b.2.1<;>simp[p2,show¬((j:Nat):Int)<0 by omega]
  ·unfold Wy;cases hasB s.1 b.2.2.1<;>by_cases p1:0<=aI s b.2.1<;>by_cases p2:b.1<b.2.2.2.2.2.1<;>simp[p1,p2]
 ·unfold Wx;cases hasB s.1 b.2.2.1<;>rfl
def Qjg(c:Cst):Mk:=(c.2.2.2.2.2.2.2.1,c.2.2.2.2.2.2.2.2.1,c.2.2.2.2.2.2.2.2.2.1)
def Qad(b:Qx):Mk:=(b.2.2.2.2.2.2.2.1,b.2.2.2.2.2.2.2.2.1,b.2.2.2.2.2.2.2.2.2.1)
theorem Zjy{m:Mt}(hv:Yg m=0){x:ByteArray}(hc:0<=cI m x):Jn (Qjg (Z3 m x))∧Jo (Z3 m x).2.1 (Z3 m x).2.2.2.2.2.2.2.1=true:=by
 obtain⟨j,y,j1,j2,-,-⟩:=W1 hc;have j1':cI m x=(j:Int):=j1;have hC:m.2.2.2.2.getD j dC=Z3 m x:=by unfold Z3;rw[j1'];rfl
 unfold Yg at hv;split at hv
 ·cases hv
 ·split at hv
  ·cases hv
  ·split at hv
   ·cases hv
   ·split at hv
    ·cases hv
    ·have h:=X1 hv _ (List.mem_map.2 ⟨j,List.mem_range.2 j2,rfl⟩);unfold W4 at h;rw[hC]at h;split at h
     ·split at h
      ·cases h
      ·unfold Qh8 at h;split at h
       ·cases h
       ·split at h
        ·cases h
        ·split at h
         ·cases h
         ·split at h
          ·cases h
          ·split at h
           ·cases h
           ·split at h
            ·rename_i hm1;split at h
             ·rename_i hm2;exact⟨hm1,hm2⟩
             ·cases h
            ·rename_i hm1;exact absurd h hm1
     ·cases h
theorem Wt{m:Mt}{s:Qj}(hv:Yi m s=0):Yg m=0:=by
 by_cases h:Yg m=0
 ·exact h
 ·rw[Yi,if_neg h]at hv;exact absurd hv h
theorem Zlb{k:ByteArray}{x y:Mk}(h1:Jo k x.1=true)(h2:Jo k y.1=true):Qgw x y:=by
 unfold Jo at h1 h2;simp only[Bool.or_eq_true]at h1 h2;unfold Qgw;rcases h1 with h1|h1
 ·rcases h2 with h2|h2
  ·right;right;rw[Xr.1 h1,Xr.1 h2];exact K9 _
  ·exact .inr (.inl h2)
 ·exact .inl h1
def Wq(m:Mt)(s:Qj)(b:Qx):Int:=
 if aI s b.2.1<0∨cI m b.2.2.2.2.1<0 then 10
 else if 0<(Z3 m b.2.2.2.2.1).2.2.2.2.2.2.2.2.2.2 then 13
 else if b.1<m.2.1∨m.2.2.1<b.1 then 19
 else if 0<=eI s b.2.1 b.2.2.2.2.1 then 9
 else if elE m s (Z3 m b.2.2.2.2.1) b.2.1=0 then
  (if Jo (Z3 m b.2.2.2.2.1).2.1 b.2.2.2.2.2.2.2.1 = true then
   (if Qc (Z3 m b.2.2.2.2.1).2.2.2.2.2.2.2.1 kN=false∧0<Vj (wE (Qad b)) (wE (Qjg (Z3 m b.2.2.2.2.1)))then 30 else if m.2.2.2.1<=Qas s b.2.1 then 5 else 0)
   else 30)
 else elE m s (Z3 m b.2.2.2.2.1) b.2.1
theorem Qz9:(YN:ByteArray)=kN:=rfl
theorem Zqb{F:Nat}(hF:700<=F){m:Mt}(hm:m.2.2.2.2.length<=300){s:Qj}(h:Za s)(k:ByteArray){b:Qx}(hv:Yg m=0)(hb:Jn (Qad b)):Qp8 F (m,s,b.1,k,b.2)=some (Wq m s b):=by
 have hF4:400<=F:=by omega
 have e2:∀a b,Q2 F (a::b::Qa Int)=some (Qk [a,b]):=fun a b=>Jb hF4 (by simp[Qa]);have e5:∀a b c d e,Q2 F (a::b::c::d::e::Qa Int)=some (Qk [a,b,c,d,e]):=fun a b c d e=>Jb hF4 (by simp[Qa]);unfold Qp8 Wq;simp only[Q3,Qoa hF4 hm,o];by_cases hc:cI m b.2.2.2.2.1<0
 ·simp[hc]
 ·obtain⟨s1,s2⟩:=Zjy hv (show 0<=cI m b.2.2.2.2.1 by omega);simp only[hc,if_false,U,cond_false,or_false,K4 hF4 h,o];generalize Z3 m b.2.2.2.2.1=ct at s1 s2;by_cases ha:aI s b.2.1<0
  ·simp[ha]
  ·simp only[ha,decide_false,cond_false,if_false,l86,Qjh hF4 h,Zbw hF h ct (show 0<=aI s b.2.1 by omega),Qwj,Zhu hF4 h,e2,e5,o,Qz9];generalize hel:elE m s ct b.2.1=el;by_cases p1:0<ct.2.2.2.2.2.2.2.2.2.2
   ·by_cases p2:b.1<m.2.1<;>simp[p1,p2,Qk]
   ·by_cases p2:b.1<m.2.1
    ·simp[p1,p2,Qk]
    ·by_cases p3:m.2.2.1<b.1
     ·simp[p1,p2,p3,Qk]
     ·by_cases p4:0<=eI s b.2.1 b.2.2.2.2.1
      ·simp[p1,p2,p3,p4,Qk]
      ·by_cases p5:el=0
       ·cases p6:Jo ct.2.1 b.2.2.2.2.2.2.2.1 with
        |false=>simp[p1,p2,p3,p4,p5,p6,Qk]
        |true=>have e205:=Yfy hF4 hb s1 (Zlb (k:=ct.2.1) p6 s2);simp only[Qad,Qjg]at e205;simp only[p1,p2,p3,p4,p5,p6,Qk,or_false,if_false,if_true,decide_true,decide_false,U,ZA,cond_false,o,e205,Qad,Qjg];cases Qc ct.2.2.2.2.2.2.2.1 kN<;>by_cases p7:0<Vj (wE (b.2.2.2.2.2.2.2.1,b.2.2.2.2.2.2.2.2.1,b.2.2.2.2.2.2.2.2.2.1)) (wE (ct.2.2.2.2.2.2.2.1,ct.2.2.2.2.2.2.2.2.1,ct.2.2.2.2.2.2.2.2.2.1))<;>by_cases p8:m.2.2.2.1<=Qas s b.2.1<;>simp[p7,p8,Qk]
       ·simp[p1,p2,p3,p4,p5,Qk]
theorem Ycm{F:Nat}(hF:700<=F){m:Mt}(hm:m.2.2.2.2.length<=300){s:Qj}(h:Za s)(k:ByteArray){b:Qx}(hv:Yg m=0)(hb:Jn (Qad b)):Qra F (m,s,b.1,k,b.2)=some (Wq m s b):=by
 have hF4:400<=F:=by omega
 have hdC:Zd=dC:=rfl;have e47:c47 F (m,b.2.2.2.2.1)=some (cI m b.2.2.2.2.1):=l47 (by omega) (by omega) _;unfold Qra Wq;simp only[Q3,e47,l40 hF4 h,hdC,o,Qz9];by_cases ha:aI s b.2.1<0
 ·simp[ha]
 ·by_cases hc:cI m b.2.2.2.2.1<0
  ·simp[ha,hc]
  ·obtain⟨s1,s2⟩:=Zjy hv (show 0<=cI m b.2.2.2.2.1 by omega);obtain⟨j,y,j1,j2,-,-⟩:=W1 (p:=fun y:Cst=>Qc y.1 b.2.2.2.2.1) (l:=m.2.2.2.2) (show 0<=cI m b.2.2.2.2.1 by omega);have j1':cI m b.2.2.2.2.1=(j:Int):=j1;have hC:m.2.2.2.2.getD j dC=Z3 m b.2.2.2.2.1:=by unfold Z3;rw[j1'];rfl
   have hnn:¬((j:Nat):Int)<0:=by omega
   simp only[ha,j1',hnn,or_self,decide_false,cond_false,if_false,o,l59 hF hm h (show 0<=aI s b.2.1 by omega) (show 0<=cI m b.2.2.2.2.1 by omega),l53 hF4 h,Qtt,Zdw hF4 h];simp(disch:=omega)only[Zf,I,hC];generalize Z3 m b.2.2.2.2.1=ct at s1 s2;generalize hel:elE m s ct b.2.1=el;by_cases p1:0<ct.2.2.2.2.2.2.2.2.2.2
   ·simp[p1]
   ·by_cases p2:b.1<m.2.1
    ·simp[p1,p2]
    ·by_cases p3:m.2.2.1<b.1
     ·simp[p1,p2,p3]
     ·by_cases p4:0<=eI s b.2.1 b.2.2.2.2.1
      ·simp[p1,p2,p3,p4]
      ·by_cases p5:el=0
       ·cases p6:Jo ct.2.1 b.2.2.2.2.2.2.2.1 with
        |false=>simp[p1,p2,p3,p4,p5,p6]
        |true=>have e57:=l57 F hb s1 (Zlb (k:=ct.2.1) p6 s2);simp only[Qad,Qjg]at e57;simp only[p1,p2,p3,p4,p5,p6,or_false,if_false,if_true,decide_true,decide_false,U,ZA,cond_false,o,e57,Qad,Qjg];cases Qc ct.2.2.2.2.2.2.2.1 kN<;>by_cases p7:0<Vj (wE (b.2.2.2.2.2.2.2.1,b.2.2.2.2.2.2.2.2.1,b.2.2.2.2.2.2.2.2.2.1)) (wE (ct.2.2.2.2.2.2.2.1,ct.2.2.2.2.2.2.2.2.1,ct.2.2.2.2.2.2.2.2.2.1))<;>by_cases p8:m.2.2.2.1<=Qas s b.2.1<;>simp[p7,p8]
       ·simp[p1,p2,p3,p4,p5]
def Jz(m:Mt)(s:Qj)(b:Qx):Int:=if eI s b.2.1 b.2.2.2.2.1<0 then 10 else if m.1<b.1 then 20 else 0
def Vs(s:Qj)(a c:ByteArray):Zo:=s.2.2.2.1.getD (eI s a c).toNat dE
def J1(m:Mt)(s:Qj)(b:Qx):Int:=if eI s b.2.1 b.2.2.2.2.1<0 then 10 else if(Vs s b.2.1 b.2.2.2.2.1).2.2.2.2.2.2=true then 9 else if b.1=m.1 then 0 else 19
theorem Yf1{F:Nat}(hF:400<=F){m:Mt}{s:Qj}(h:Za s)(k:ByteArray)(b:Qx):Qq7 F (m,s,b.1,k,b.2)=some (Jz m s b):=by have e2:∀a b,Q2 F (a::b::Qa Int)=some (Qk [a,b]):=fun a b=>Jb hF (by simp[Qa]);unfold Qq7 Jz;simp only[Q3,Qjh hF h,l86,e2,o];by_cases p1:eI s b.2.1 b.2.2.2.2.1<0<;>by_cases p2:m.1<b.1<;>simp[p1,p2,Qk]
theorem Ybk{F:Nat}(hF:400<=F){m:Mt}{s:Qj}(h:Za s)(k:ByteArray)(b:Qx):Qpg F (m,s,b.1,k,b.2)=some (J1 m s b):=by
 have e2:∀a b,Q2 F (a::b::Qa Int)=some (Qk [a,b]):=fun a b=>Jb hF (by simp[Qa]);unfold Qpg J1 Vs;simp only[Q3,tE,Qjh hF h,l86,e2,o];by_cases p1:eI s b.2.1 b.2.2.2.2.1<0
 ·simp[p1]
 ·obtain⟨j,y,j1,j2,-,-⟩:=W1 (p:=eP b.2.1 b.2.2.2.2.1) (l:=s.2.2.2.1) (show 0<=eI s b.2.1 b.2.2.2.2.1 by omega);have j1':eI s b.2.1 b.2.2.2.2.1=(j:Int):=j1;have hnn:¬((j:Nat):Int)<0:=by omega
  simp(disch:=omega)only[j1',hnn,decide_false,cond_false,if_false,Zf,I];cases(s.2.2.2.1.getD j dE).2.2.2.2.2.2<;>by_cases p2:b.1=m.1<;>simp[p2,Qk]
def teE(m:Mt)(s:Qj)(b:Qx)(i:Nat):Int:=
 if aI s (b.2.2.2.2.2.2.2.2.2.2.getD i J)<0 then 10
 else if Qc (Y1 s (b.2.2.2.2.2.2.2.2.2.2.getD i J)).2.1 b.2.2.1=true then
  (if hasB (b.2.2.2.2.2.2.2.2.2.2.take i) (b.2.2.2.2.2.2.2.2.2.2.getD i J)=true then 9 else elE m s (Z3 m b.2.2.2.2.1) (b.2.2.2.2.2.2.2.2.2.2.getD i J))
 else 18
def Wu(m:Mt)(s:Qj)(b:Qx):Int:=
 if hasB s.1 b.2.2.1=false∨cI m b.2.2.2.2.1<0 then 10
 else if(Z3 m b.2.2.2.2.1).2.2.2.2.2.2.2.2.2.2=0 then 13
 else if m.1<b.1 then 20
 else if(b.2.2.2.2.2.2.2.2.2.2.length:Int)=(Z3 m b.2.2.2.2.1).2.2.2.2.2.2.2.2.2.2 then Qk ((List.range b.2.2.2.2.2.2.2.2.2.2.length).map (teE m s b))else 2
theorem Ynu{F:Nat}(hF:700<=F){m:Mt}{s:Qj}(h:Za s)(k:ByteArray){b:Qx}(hb:b.2.2.2.2.2.2.2.2.2.2.length<=10){i:Nat}(hi:i<b.2.2.2.2.2.2.2.2.2.2.length):
  Qry F ((i:Int),b.2.2.2.2.2.2.2.2.2.2.getD i J,s,(b.1,k,b.2),m,Z3 m b.2.2.2.2.1)=some (teE m s b i):=by
 have hF4:400<=F:=by omega
 have e3:∀a b c,Q2 F (a::b::c::Qa Int)=some (Qk [a,b,c]):=fun a b c=>Jb hF4 (by simp[Qa]);have hi':(i:Int)<=b.2.2.2.2.2.2.2.2.2.2.length:=by omega
 have e107:=Qta hF4 (l:=b.2.2.2.2.2.2.2.2.2.2.take i) (x:=b.2.2.2.2.2.2.2.2.2.2.getD i J) (by simp;omega);unfold Qry teE;generalize b.2.2.2.2.2.2.2.2.2.2.getD i J=x at e107;simp only[Q3,K4 hF4 h,o,I,ZE];by_cases p1:aI s x<0
 ·simp[p1]
 ·have ha:0<=aI s x:=by omega
  have hcl:Qnx s x=(Y1 s x).2.1:=rfl;simp(disch:=omega)only[p1,decide_false,cond_false,if_false,Zf,e107,Zkr hF4 h ha,hcl,Zbw hF h _ ha,l86,e3,o];generalize elE m s (Z3 m b.2.2.2.2.1) x=el;cases Qc (Y1 s x).2.1 b.2.2.1<;>cases hasB (b.2.2.2.2.2.2.2.2.2.2.take i) x<;>by_cases p2:el=0<;>simp[p2,Qk]
theorem Yg8{F:Nat}(hF:700<=F){m:Mt}(hm:m.2.2.2.2.length<=300){s:Qj}(h:Za s)(k:ByteArray){b:Qx}(hb:b.2.2.2.2.2.2.2.2.2.2.length<=10):Qq4 F (m,s,b.1,k,b.2)=some (Wu m s b):=by
 have hF4:400<=F:=by omega
 have e4:∀a b c d,Q2 F (a::b::c::d::Qa Int)=some (Qk [a,b,c,d]):=fun a b c d=>Jb hF4 (by simp[Qa]);unfold Qq4 Wu;simp only[Q3,Qoa hF4 hm,Qiy hF4 h,l86,e4,o];by_cases hc:cI m b.2.2.2.2.1<0
 ·simp[hc,Qk]
 ·simp only[hc,if_false,U,cond_false,or_false];have e100:Qpf F (b.2.2.2.2.2.2.2.2.2.2,s,(b.1,k,b.2),m,Z3 m b.2.2.2.2.1)=some (Qk ((List.range b.2.2.2.2.2.2.2.2.2.2.length).map (teE m s b))):=by
   unfold Qpf;refine U8 b.2.2.2.2.2.2.2.2.2.2.length (teE m s b) (by omega) (by omega) ?_ ?_ (Qbz _)
   ·intro i hi;simp(disch:=omega)only[Zx,Zf,I,Zv,Q3,Ynu hF h k hb hi,o,Qdh]
   ·simp(disch:=omega)only[Zz]
  simp only[e100,o];generalize Z3 m b.2.2.2.2.1=ct;cases hasB s.1 b.2.2.1<;>by_cases p1:ct.2.2.2.2.2.2.2.2.2.2=0<;>by_cases p2:m.1<b.1<;>by_cases p3:(b.2.2.2.2.2.2.2.2.2.2.length:Int)=ct.2.2.2.2.2.2.2.2.2.2<;>simp[p1,p2,p3,Qk]
theorem Yft{F:Nat}(hF:700<=F){m:Mt}(hm:m.2.2.2.2.length<=300){s:Qj}(h:Za s)(k:ByteArray){b:Qx}(hb:b.2.2.2.2.2.2.2.2.2.2.length<=10):Qst F (m,s,b.1,k,b.2)=some (Wu m s b):=by
 have hF4:400<=F:=by omega
 have hdC:Zd=dC:=rfl;have hdA:Zy=dA:=rfl;have e47:c47 F (m,b.2.2.2.2.1)=some (cI m b.2.2.2.2.1):=l47 (by omega) (by omega) _;have h1:=h.c;have e54:=l54 hF4 (l:=s.1) (by omega) b.2.2.1;unfold Qst Wu;simp only[Q3,e47,e54,hdC,hdA,o];cases hasB s.1 b.2.2.1
 ·simp
 ·by_cases hc:cI m b.2.2.2.2.1<0
  ·simp[hc]
  ·obtain⟨j,y,j1,j2,-,-⟩:=W1 (p:=fun y:Cst=>Qc y.1 b.2.2.2.2.1) (l:=m.2.2.2.2) (show 0<=cI m b.2.2.2.2.1 by omega);have j1':cI m b.2.2.2.2.1=(j:Int):=j1;have hC:m.2.2.2.2.getD j dC=Z3 m b.2.2.2.2.1:=by unfold Z3;rw[j1'];rfl
   have hnn:¬((j:Nat):Int)<0:=by omega
   simp(disch:=omega)only[j1',hnn,U,Bool.true_eq_false,or_self,decide_false,cond_false,if_false,o,Zf,I,hC];by_cases p1:(Z3 m b.2.2.2.2.1).2.2.2.2.2.2.2.2.2.2=0
   ·simp[p1]
   ·by_cases p2:m.1<b.1
    ·simp[p1,p2]
    ·by_cases p3:(b.2.2.2.2.2.2.2.2.2.2.length:Int)=(Z3 m b.2.2.2.2.1).2.2.2.2.2.2.2.2.2.2
     ·simp only[p1,p2,p3,decide_true,decide_false,U,cond_false,if_false,if_true];rw[<-p3];refine U8 b.2.2.2.2.2.2.2.2.2.2.length (teE m s b) (by omega) (by omega) ?_ ?_ (Qbz _)
      ·intro i hi;have hi':(i:Int)<=b.2.2.2.2.2.2.2.2.2.2.length:=by omega
       have e54b:=fun x=>l54 hF4 (l:=b.2.2.2.2.2.2.2.2.2.2.take i) (by simp;omega) x;unfold teE Y1;simp(disch:=omega)only[Zx,Zf,I,Zv,l40 hF4 h,ZE,e54b,o];generalize b.2.2.2.2.2.2.2.2.2.2.getD i J=x;by_cases q1:aI s x<0
       ·simp[q1]
       ·have ha:0<=aI s x:=by omega
        obtain⟨ka,k1,k2⟩:=Qfq ha;have el:=l59 hF hm h ha (show 0<=cI m b.2.2.2.2.1 by omega);simp(disch:=omega)only[el,k1,Zf,I,show¬((ka:Nat):Int)<0 by omega,decide_false,cond_false,if_false,o];generalize elE m s (Z3 m b.2.2.2.2.1) x=el;cases Qc (s.2.1.getD ka dA).2.1 b.2.2.1<;>cases hasB (b.2.2.2.2.2.2.2.2.2.2.take i) x<;>by_cases q2:el=0<;>simp[q2]
      ·simp(disch:=omega)only[Zz]
     ·simp[p1,p2,p3]
end Go.Proofs.Tryz
section
namespace Go.Proofs.Tryz
open Go Go.Sx
end Go.Proofs.Tryz
end
section
namespace Go.Proofs.Tryz
open Go Go.Sx
noncomputable section
def Zkc(F:Nat):LK:=lN
def Qga(F:Nat)(a:List ByteArray):Option (List ByteArray):=
 bif decide (a.length=0)then((gd (decide (C (Qa ByteArray++a)*(16:Nat)<=(140737488355328:Nat))) (gd (decide (C (Qa ByteArray++a)<=9223372036854775807)) (gd (decide ((0:Nat)+C (Qa ByteArray++a)<=C (Qa ByteArray++a))) (some (ZB (C (Qa ByteArray++a)) (ZC (0:Nat) (Qa ByteArray++a))))))).bind fun(v4:List ByteArray)=>gd (Qt.eqv (Qe.val (Ty.seq Z9)::Qa Qe) (Qa ByteArray) v4) (some (Qa ByteArray)))else(gd (decide (C (Qa ByteArray++a)*(16:Nat)<=(140737488355328:Nat))) (gd (decide (C (Qa ByteArray++a)<=9223372036854775807)) (gd (decide ((0:Nat)+C (Qa ByteArray++a)<=C (Qa ByteArray++a))) (some (ZB (C (Qa ByteArray++a)) (ZC (0:Nat) (Qa ByteArray++a)))))))
def Yns(F:Nat):PC:={ats:=Qcj,rts:=Qcj,code:=Qga F}
theorem Zps(F:Nat)(a:List ByteArray):Zp cx (Zkc F).x 1000 .leaf f150 (Qo f150) Qcj Qcj a=Qga F a:=by kernel_rfl
theorem Qoz(F:Nat):Qg cx 150 (Yns F):=Qg.Z6 Z7 (Zkc F).ok (n:=1000) (an:=.leaf) (fn:=f150) (c:=Qo f150) (by kernel_rfl) (by kernel_rfl) (fun a y h=>(Zps F a).trans h) (by kernel_rfl)
def Zio(F:Nat):LK:=lN
def Qfu(F:Nat)(a:List (Qs)):Option (List (Qs)):=
 bif decide (a.length=0)then((gd (decide (C (Qa (Qs)++a)*(56:Nat)<=(140737488355328:Nat))) (gd (decide (C (Qa (Qs)++a)<=9223372036854775807)) (gd (decide ((0:Nat)+C (Qa (Qs)++a)<=C (Qa (Qs)++a))) (some (ZB (C (Qa (Qs)++a)) (ZC (0:Nat) (Qa (Qs)++a))))))).bind fun(v4:List (Qs))=>gd (Qt.eqv (Qe.val (Ty.seq kt3)::Qa Qe) (Qa (Qs)) v4) (some (Qa (Qs))))else(gd (decide (C (Qa (Qs)++a)*(56:Nat)<=(140737488355328:Nat))) (gd (decide (C (Qa (Qs)++a)<=9223372036854775807)) (gd (decide ((0:Nat)+C (Qa (Qs)++a)<=C (Qa (Qs)++a))) (some (ZB (C (Qa (Qs)++a)) (ZC (0:Nat) (Qa (Qs)++a)))))))
def Yki(F:Nat):PC:={ats:=Qfy,rts:=Qfy,code:=Qfu F}
theorem Zt8(F:Nat)(a:List (Qs)):Zp cx (Zio F).x 1000 .leaf f199 (Qo f199) Qfy Qfy a=Qfu F a:=by kernel_rfl
theorem Yci(F:Nat):Qg cx 199 (Yki F):=Qg.Z6 Z7 (Zio F).ok (n:=1000) (an:=.leaf) (fn:=f199) (c:=Qo f199) (by kernel_rfl) (by kernel_rfl) (fun a y h=>(Zt8 F a).trans h) (by kernel_rfl)
def Zbk(F:Nat):LK:=lN
def Qcw(F:Nat)(a:List (Qw)):Option (List (Qw)):=
 bif decide (a.length=0)then((gd (decide (C (Qa (Qw)++a)*(32:Nat)<=(140737488355328:Nat))) (gd (decide (C (Qa (Qw)++a)<=9223372036854775807)) (gd (decide ((0:Nat)+C (Qa (Qw)++a)<=C (Qa (Qw)++a))) (some (ZB (C (Qa (Qw)++a)) (ZC (0:Nat) (Qa (Qw)++a))))))).bind fun(v4:List (Qw))=>gd (Qt.eqv (Qe.val (Ty.seq kt2)::Qa Qe) (Qa (Qw)) v4) (some (Qa (Qw))))else(gd (decide (C (Qa (Qw)++a)*(32:Nat)<=(140737488355328:Nat))) (gd (decide (C (Qa (Qw)++a)<=9223372036854775807)) (gd (decide ((0:Nat)+C (Qa (Qw)++a)<=C (Qa (Qw)++a))) (some (ZB (C (Qa (Qw)++a)) (ZC (0:Nat) (Qa (Qw)++a)))))))
def Yoc(F:Nat):PC:={ats:=Qgi,rts:=Qgi,code:=Qcw F}
theorem Zsd(F:Nat)(a:List (Qw)):Zp cx (Zbk F).x 1000 .leaf f200 (Qo f200) Qgi Qgi a=Qcw F a:=by kernel_rfl
theorem Zo3(F:Nat):Qg cx 200 (Yoc F):=Qg.Z6 Z7 (Zbk F).ok (n:=1000) (an:=.leaf) (fn:=f200) (c:=Qo f200) (by kernel_rfl) (by kernel_rfl) (fun a y h=>(Zsd F a).trans h) (by kernel_rfl)
def Zbq(F:Nat):LK:=lN
def Qbq(F:Nat)(a:List (Qi)):Option (List (Qi)):=
 bif decide (a.length=0)then((gd (decide (C (Qa (Qi)++a)*(88:Nat)<=(140737488355328:Nat))) (gd (decide (C (Qa (Qi)++a)<=9223372036854775807)) (gd (decide ((0:Nat)+C (Qa (Qi)++a)<=C (Qa (Qi)++a))) (some (ZB (C (Qa (Qi)++a)) (ZC (0:Nat) (Qa (Qi)++a))))))).bind fun(v4:List (Qi))=>gd (Qt.eqv (Qe.val (Ty.seq Zr)::Qa Qe) (Qa (Qi)) v4) (some (Qa (Qi))))else(gd (decide (C (Qa (Qi)++a)*(88:Nat)<=(140737488355328:Nat))) (gd (decide (C (Qa (Qi)++a)<=9223372036854775807)) (gd (decide ((0:Nat)+C (Qa (Qi)++a)<=C (Qa (Qi)++a))) (some (ZB (C (Qa (Qi)++a)) (ZC (0:Nat) (Qa (Qi)++a)))))))
def Zsr(F:Nat):PC:={ats:=Qcc,rts:=Qcc,code:=Qbq F}
theorem Zoa(F:Nat)(a:List (Qi)):Zp cx (Zbq F).x 1000 .leaf f201 (Qo f201) Qcc Qcc a=Qbq F a:=by kernel_rfl
theorem Ydo(F:Nat):Qg cx 201 (Zsr F):=Qg.Z6 Z7 (Zbq F).ok (n:=1000) (an:=.leaf) (fn:=f201) (c:=Qo f201) (by kernel_rfl) (by kernel_rfl) (fun a y h=>(Zoa F a).trans h) (by kernel_rfl)
end
end Go.Proofs.Tryz
end
section
namespace Go.Proofs.Tryz
open Go Go.Sx
noncomputable section
end
end Go.Proofs.Tryz
end
namespace Go.Proofs.Tryz
open Go Go.Sx
theorem Zaq{F:Nat}{l:List ByteArray}(h:l.length<=1000):Qga F l=some l:=by
 have e:Qa ByteArray++l=l:=rfl;have h1:l.length*16<=140737488355328:=by omega
 have h2:l.length<=9223372036854775807:=by omega
 unfold Qga;simp only[e,h1,h2,Nat.zero_add,Nat.le_refl,decide_true,Zh,ZE,List.take_length,o];by_cases h0:l.length=0
 ·obtain rfl:=List.eq_nil_of_length_eq_zero h0;rfl
 ·simp only[h0,decide_false,cond_false]
noncomputable def Yhx(F:Nat):LK:=lN
noncomputable def c81(F:Nat)(a:PUnit):Option (Zc):=
 some (((8000:Int),(7900:Int),(7990:Int),(2:Int),({data:=R (115::112::114::105::110::116::Qa UInt8)},YL,(ZD (R (Qa UInt8))),(16:Int),(40:Int),(2:Int),(1:Int),YL,(120000:Int),(ZD (R (Qa UInt8))),(0:Int))::({data:=R (106::117::109::112::Qa UInt8)},YM,(ZD (R (Qa UInt8))),(16:Int),(40:Int),(8:Int),(2:Int),YN,(0:Int),YQ,(0:Int))::({data:=R (114::101::108::97::121::Qa UInt8)},YL,(ZD (R (Qa UInt8))),(16:Int),(40:Int),(8:Int),(1:Int),YN,(0:Int),YQ,(2:Int))::Qa (Yu)))
noncomputable def Qz7(F:Nat):PC:={ats:=[],rts:=[.agg Xj],code:=c81 F}
theorem Yav(F:Nat):Qg cx 81 (Qz7 F):=qE (Yhx F) .leaf f81 (by kernel_rfl) fun a=>by kernel_rfl
noncomputable def Yiu(F:Nat):LK:=lN
noncomputable def c83(F:Nat)(a:Int):Option (ByteArray×Int×ByteArray):=
 some ((YL,w64 ((100:Int)*a),(ZD (R (Qa UInt8)))))
noncomputable def Qvo(F:Nat):PC:={ats:=Zj,rts:=[.agg kt7],code:=c83 F}
theorem Zfp(F:Nat):Qg cx 83 (Qvo F):=qE (Yiu F) .leaf f83 (by kernel_rfl) fun a=>by kernel_rfl
end Go.Proofs.Tryz
