/- Plain law: who is eligible; acts that are legal, about a club, an athlete, a licence. Plain law: entries, withdrawals, checks and teams that are legal. And further parts. -/
import Derived.Test.YtpkbmngnolhopaaGreatDoorXT3i
import Derived.Test.YtpkbmngnolhopaaGreatDoorXT3n
set_option maxRecDepth 100000
set_option linter.unusedVariables false
set_option linter.unusedSimpArgs false
set_option linter.all false
namespace Go.Proofs.Tryz
open Go Go.Sx
theorem Zfb:({data:=List.toArray (Qa UInt8)}:ByteArray)=k0:=rfl
def Xc(s:Qq)(x:ByteArray):Ath:=s.2.1.getD (aI s x).toNat dA
def Qq8(m:Mt)(s:Qq)(x:ByteArray):Int:=w64 (Int.tdiv (w64 (m.1-(Xc s x).2.2.1)) 365)
def elE(m:Mt)(s:Qq)(c:Cst)(x:ByteArray):Int:=
 if(!Qc c.2.2.1 k0&& !Qc c.2.2.1 (Xc s x).2.2.2)=true then 18
 else if m.1<(Xc s x).2.2.1∨Qq8 m s x<c.2.2.2.1∨c.2.2.2.2.1<Qq8 m s x then 18
 else if(s.2.2.1.any (Uh x m.1))=true then 0 else 7
theorem Qwg{F:Nat}(hF:700≤F){m:Mt}{s:Qq}(h:Zi s)(c:Cst){x:ByteArray}(hx:0≤aI s x):Qf6 F (s,m,c,x)=some (elE m s c x):=by
 have hF4:400≤F:=by omega
 obtain⟨k,h1,h2⟩:=Qfg hx;have hl:=h.l;have hd:Zu=dA:=rfl;have e3:∀a b c,Q0 F (a::b::c::Qa Int)=some (Qj [a,b,c]):=fun a b c=>X6 hF4 (by simp[Qa]);have hA:s.2.1.getD k dA=Xc s x:=by unfold Xc;rw[h1];rfl
 have e147:=Zm7 (F:=F) (l:=s.2.2.1) (by omega) (by omega) x m.1;unfold Qf6 elE Qq8;simp only[Q3,V0 hF4 h,Option.bind_some,h1,hd,Zfb];simp(disch:=omega)only[Zd,Int.toNat_natCast,hA,e147,l86,e3,Option.bind_some];generalize Xc s x=a;generalize s.2.2.1.any (Uh x m.1)=lb;generalize w64 (Int.tdiv (w64 (m.1-a.2.2.1)) 365)=ag;cases Qc c.2.2.1 k0<;>cases Qc c.2.2.1 a.2.2.2<;>by_cases p1:m.1<a.2.2.1<;>by_cases p2:ag<c.2.2.2.1<;>by_cases p3:c.2.2.2.2.1<ag<;>cases lb<;>
  simp[p1,p2,p3,Qj,Vf,Qk2,Qjj,Zh]
theorem l59{F:Nat}(hF:700≤F){m:Mt}(hm:m.2.2.2.2.length≤300){s:Qq}(h:Zi s){x c:ByteArray}(hx:0≤aI s x)(hc:0≤cI m c):c59 F (m,s,x,c)=some (elE m s (Yb m c) x):=by
 have hF4:400≤F:=by omega
 obtain⟨k,h1,h2⟩:=Qfg hx;obtain⟨j,y,j1,j2,-,-⟩:=Km hc;have j1':Xb (fun y:Cst=>Qc y.1 c) m.2.2.2.2=(j:Int):=j1;have hC:m.2.2.2.2.getD j dC=Yb m c:=by unfold Yb cI;rw[j1'];rfl
 have hl:=h.l;have hd:Zu=dA:=rfl;have hdC:Zc=dC:=rfl;have hA:s.2.1.getD k dA=Xc s x:=by unfold Xc;rw[h1];rfl
 have e68:=l68 (F:=F) (l:=s.2.2.1) (by omega) (by omega) x m.1;unfold c59 elE Qq8 tw;simp only[Q3,l40 hF4 h,l47 (F:=F) (m:=m) (by omega) (by omega),Option.bind_some,h1,j1',hd,hdC,Zfb];simp(disch:=omega)only[Zd,Int.toNat_natCast,hA,hC,e68,Option.bind_some];generalize Xc s x=a;generalize Yb m c=ct;generalize s.2.2.1.any (Uh x m.1)=lb;generalize w64 (Int.tdiv (w64 (m.1-a.2.2.1)) 365)=ag;cases Qc ct.2.2.1 k0<;>cases Qc ct.2.2.1 a.2.2.2<;>by_cases p1:m.1<a.2.2.1<;>by_cases p2:ag<ct.2.2.2.1<;>by_cases p3:ct.2.2.2.2.1<ag<;>cases lb<;>
  simp[p1,p2,p3,Vf,Qk2,Qjj,Zh]
theorem l58{F:Nat}(hF:700≤F){m:Mt}(hm:m.2.2.2.2.length≤300)(hb:∀x∈m.2.2.2.2,x.1.size≤300∧x.2.2.1.size≤300){s:Qq}(h:Zi s)(x c:ByteArray):
  c58 F (m,s,x,c)=some (if Yi m s=0 then(if aI s x<0∨cI m c<0 then 10 else elE m s (Yb m c) x)else Yi m s):=by
 have hF4:400≤F:=by omega
 have e2:∀a b,Q0 F (a::b::Qa Int)=some (Qj [a,b]):=fun a b=>X6 hF4 (by simp[Qa]);unfold c58;simp only[Q3,Qjx hF4 hm,l25 hF4 hm hb h,V0 hF4 h,l86,e2,Option.bind_some];by_cases hz:Yi m s=0
 ·by_cases ha:aI s x<0
  ·simp[hz,ha,Qj]
  ·by_cases hc:cI m c<0
   ·simp[hz,ha,hc,Qj]
   ·simp[hz,ha,hc,Qj,Qwg hF h (Yb m c) (show 0≤aI s x by omega)]
 ·by_cases ha:aI s x<0
  ·simp[hz,ha,Qj]
  ·simp[hz,ha,Qj]
def Qa5(s:Qq)(x:ByteArray):Int:=((s.2.2.2.1.filter fun e=>Qc e.1 x).length:Int)
theorem Zhs{F:Nat}(hF:400≤F){s:Qq}(h:Zi s)(x:ByteArray):Qij F (s,x)=some (Qa5 s x):=by
 have h1:=h.e;unfold Qij Qa5;simp only[tE];refine Jq s.2.2.2.1 (fun n j=>(n,(j:Int))) (fun y n=>.inl (if Qc y.1 x=true then n+1 else n)) (fun n=>n) (fun j n=>0≤n∧n≤j) 0 (by omega) rfl ⟨by omega,by omega⟩ ?_ ?_ ?_
 ·intro j y n hj hy hn;refine⟨?_,fun s' hs=>?_⟩
  ·simp(disch:=omega)only[Zw,Zd,Int.toNat_natCast,getD_some hy,Zv];cases Qc y.1 x<;>rfl
  ·simp only[Sum.inl.injEq]at hs;subst hs;split<;>omega
 ·intro n _;simp(disch:=omega)only[Zz]
 ·rw[Qpo (fun n (y:Zt)=>if Qc y.1 x=true then n+1 else n),Qsz (fun y:Zt=>Qc y.1 x),Int.zero_add]
theorem Zbe{F:Nat}(hF:400≤F){s:Qq}(h:Zi s)(x:ByteArray):Qjp F (s,x)=some (Qa5 s x):=by
 have h1:=h.e;unfold Qjp Qa5;simp only[tE];refine Jq s.2.2.2.1 (fun n j=>(n,(j:Int))) (fun y n=>.inl (if Qc y.1 x=true then n+1 else n)) (fun n=>n) (fun j n=>0≤n∧n≤j) 0 (by omega) rfl ⟨by omega,by omega⟩ ?_ ?_ ?_
 ·intro j y n hj hy hn;refine⟨?_,fun s' hs=>?_⟩
  ·simp(disch:=omega)only[Zw,Zd,Int.toNat_natCast,getD_some hy,Zv];cases Qc y.1 x<;>rfl
  ·simp only[Sum.inl.injEq]at hs;subst hs;split<;>omega
 ·intro n _;simp(disch:=omega)only[Zz]
 ·rw[Qpo (fun n (y:Zt)=>if Qc y.1 x=true then n+1 else n),Qsz (fun y:Zt=>Qc y.1 x),Int.zero_add]
def Kc(s:Qq)(b:Q1):Int:=if hasB s.1 b.2.2.1=true then 9 else 0
def Vt(s:Qq)(b:Q1):Int:=if hasB s.1 b.2.2.1=true then(if 0≤aI s b.2.1 then 9 else if b.1<b.2.2.2.2.2.1 then 3 else 0)else 10
def V3(s:Qq)(b:Q1):Int:=if aI s b.2.1<0 then 10 else 0
def Wv(s:Qq)(b:Q1):Int:=if aI s b.2.1<0 then 10 else if hasB s.1 b.2.2.1=true then(if Qc (Xc s b.2.1).2.1 b.2.2.1=true then 9 else if 0<Qa5 s b.2.1 then 19 else 0)else 10
theorem Zxy{F:Nat}(hF:400≤F){m:Mt}{s:Qq}(h:Zi s)(k:ByteArray)(b:Q1):Qrp F (m,s,b.1,k,b.2)=some (Kc s b):=by unfold Qrp Kc;simp only[Q3,Qhf hF h,l86,Option.bind_some]
theorem Yd5{F:Nat}(hF:400≤F){m:Mt}{s:Qq}(h:Zi s)(k:ByteArray)(b:Q1):Qro F (m,s,b.1,k,b.2)=some (Vt s b):=by have e3:∀a b c,Q0 F (a::b::c::Qa Int)=some (Qj [a,b,c]):=fun a b c=>X6 hF (by simp[Qa]);unfold Qro Vt;simp only[Q3,Qhf hF h,V0 hF h,l86,e3,Option.bind_some];cases hasB s.1 b.2.2.1<;>by_cases p1:0≤aI s b.2.1<;>by_cases p2:b.1<b.2.2.2.2.2.1<;>simp[p1,p2,Qj]
theorem Yba{F:Nat}(hF:400≤F){m:Mt}{s:Qq}(h:Zi s)(k:ByteArray)(b:Q1):Qnm F (m,s,b.1,k,b.2)=some (V3 s b):=by unfold Qnm V3;simp only[Q3,V0 hF h,l86,Option.bind_some,decide_eq_true_eq]
theorem Znk{F:Nat}(hF:400≤F){m:Mt}{s:Qq}(h:Zi s)(k:ByteArray)(b:Q1):Qq3 F (m,s,b.1,k,b.2)=some (Wv s b):=by
 have e2:∀a b,Q0 F (a::b::Qa Int)=some (Qj [a,b]):=fun a b=>X6 hF (by simp[Qa]);unfold Qq3 Wv;simp only[Q3,V0 hF h,Qhf hF h,Option.bind_some];by_cases p1:aI s b.2.1<0
 ·simp[p1]
 ·have hcl:Qre s b.2.1=(Xc s b.2.1).2.1:=rfl;simp only[p1,decide_false,cond_false,if_false,Ze6 hF h (show 0≤aI s b.2.1 by omega),Zhs hF h,hcl,l86,e2,Option.bind_some];cases hasB s.1 b.2.2.1<;>cases Qc (Xc s b.2.1).2.1 b.2.2.1<;>by_cases p2:0<Qa5 s b.2.1<;>simp[p2,Qj]
theorem Qnp{F:Nat}(hF:400≤F){s:Qq}(h:Zi s)(k:ByteArray)(b:Q1):Qpr F (s,b.1,k,b.2)=some (if Qc k Ym=true then Kc s b else if Qc k Yk=true then Vt s b else if Qc k Yf=true then Wv s b else V3 s b):=by
 have hd:Zu=dA:=rfl;have h1:=h.c;have e54:=l54 hF (l:=s.1) (by omega) b.2.2.1;unfold Qpr;simp only[Q3,e54,l40 hF h,hd,Zbe hF h,Option.bind_some];change (bif Qc k Ym then _ else _)=_;cases q1:Qc k Ym
 ·simp only[cond_false,Bool.false_eq_true,if_false];change (bif Qc k Yk then _ else _)=_;cases q2:Qc k Yk
  ·simp only[cond_false,Bool.false_eq_true,if_false];rw[show Qc k {data:=List.toArray ((116:UInt8)::(114:UInt8)::(97:UInt8)::(110:UInt8)::(115:UInt8)::(102:UInt8)::(101:UInt8)::(114:UInt8)::Qa UInt8)}=Qc k Yf from rfl];cases q3:Qc k Yf
   ·unfold V3;by_cases p1:aI s b.2.1<0<;>simp[p1]
   ·unfold Wv Xc;by_cases p1:aI s b.2.1<0
    ·simp[p1]
    ·obtain⟨j,j1,j2⟩:=Qfg (show 0≤aI s b.2.1 by omega);simp(disch:=omega)only[j1,p1,Zd,Int.toNat_natCast];cases hasB s.1 b.2.2.1<;>cases Qc (s.2.1.getD j dA).2.1 b.2.2.1<;>by_cases p2:0<Qa5 s b.2.1<;>simp[p2,show¬((j:Nat):Int)<0 by omega]
  ·unfold Vt;cases hasB s.1 b.2.2.1<;>by_cases p1:0≤aI s b.2.1<;>by_cases p2:b.1<b.2.2.2.2.2.1<;>simp[p1,p2]
 ·unfold Kc;cases hasB s.1 b.2.2.1<;>rfl
def Qgt(c:Cst):Mk:=(c.2.2.2.2.2.2.2.1,c.2.2.2.2.2.2.2.2.1,c.2.2.2.2.2.2.2.2.2.1)
def Qaf(b:Q1):Mk:=(b.2.2.2.2.2.2.2.1,b.2.2.2.2.2.2.2.2.1,b.2.2.2.2.2.2.2.2.2.1)
theorem Zbl{m:Mt}(hv:mtE m=0){x:ByteArray}(hc:0≤cI m x):Jj (Qgt (Yb m x))∧J8 (Yb m x).2.1 (Yb m x).2.2.2.2.2.2.2.1=true:=by
 obtain⟨j,y,j1,j2,-,-⟩:=Km hc;have j1':cI m x=(j:Int):=j1;have hC:m.2.2.2.2.getD j dC=Yb m x:=by unfold Yb;rw[j1'];rfl
 unfold mtE at hv;split at hv
 ·cases hv
 ·split at hv
  ·cases hv
  ·split at hv
   ·cases hv
   ·split at hv
    ·cases hv
    ·have h:=Quw hv _ (List.mem_map.2 ⟨j,List.mem_range.2 j2,rfl⟩);unfold Wk at h;rw[hC]at h;split at h
     ·split at h
      ·cases h
      ·unfold Qix at h;split at h
       ·cases h
       ·split at h
        ·cases h
        ·split at h
         ·cases h
         ·split at h
          ·cases h
          ·split at h
           ·cases h
           ·split at h
            ·rename_i hm1;split at h
             ·rename_i hm2;exact⟨hm1,hm2⟩
             ·cases h
            ·rename_i hm1;exact absurd h hm1
     ·cases h
theorem J6{m:Mt}{s:Qq}(hv:Yi m s=0):mtE m=0:=by
 by_cases h:mtE m=0
 ·exact h
 ·rw[Yi,if_neg h]at hv;exact absurd hv h
theorem Zae{k:ByteArray}{x y:Mk}(h1:J8 k x.1=true)(h2:J8 k y.1=true):Qe2 x y:=by
 unfold J8 at h1 h2;simp only[Bool.or_eq_true]at h1 h2;unfold Qe2;rcases h1 with h1|h1
 ·rcases h2 with h2|h2
  ·right;right;rw[Xw.1 h1,Xw.1 h2];exact Ks _
  ·exact .inr (.inl h2)
 ·exact .inl h1
def V1(m:Mt)(s:Qq)(b:Q1):Int:=
 if aI s b.2.1<0∨cI m b.2.2.2.2.1<0 then 10
 else if 0<(Yb m b.2.2.2.2.1).2.2.2.2.2.2.2.2.2.2 then 13
 else if b.1<m.2.1∨m.2.2.1<b.1 then 19
 else if 0≤eI s b.2.1 b.2.2.2.2.1 then 9
 else if elE m s (Yb m b.2.2.2.2.1) b.2.1=0 then
  (if J8 (Yb m b.2.2.2.2.1).2.1 b.2.2.2.2.2.2.2.1 = true then
   (if Qc (Yb m b.2.2.2.2.1).2.2.2.2.2.2.2.1 kN=false∧0<Wr (wE (Qaf b)) (wE (Qgt (Yb m b.2.2.2.2.1)))then 30 else if m.2.2.2.1≤Qa5 s b.2.1 then 5 else 0)
   else 30)
 else elE m s (Yb m b.2.2.2.2.1) b.2.1
theorem Zfi:({data:=List.toArray ((110:UInt8)::(111:UInt8)::(110:UInt8)::(101:UInt8)::Qa UInt8)}:ByteArray)=kN:=rfl
theorem Yke{F:Nat}(hF:700≤F){m:Mt}(hm:m.2.2.2.2.length≤300){s:Qq}(h:Zi s)(k:ByteArray){b:Q1}(hv:mtE m=0)(hb:Jj (Qaf b)):Qp6 F (m,s,b.1,k,b.2)=some (V1 m s b):=by
 have hF4:400≤F:=by omega
 have e2:∀a b,Q0 F (a::b::Qa Int)=some (Qj [a,b]):=fun a b=>X6 hF4 (by simp[Qa]);have e5:∀a b c d e,Q0 F (a::b::c::d::e::Qa Int)=some (Qj [a,b,c,d,e]):=fun a b c d e=>X6 hF4 (by simp[Qa]);unfold Qp6 V1;simp only[Q3,Qjx hF4 hm,Option.bind_some];by_cases hc:cI m b.2.2.2.2.1<0
 ·simp[hc]
 ·obtain⟨s1,s2⟩:=Zbl hv (show 0≤cI m b.2.2.2.2.1 by omega);simp only[hc,if_false,Bool.not_true,cond_false,or_false,V0 hF4 h,Option.bind_some];generalize Yb m b.2.2.2.2.1=ct at s1 s2;by_cases ha:aI s b.2.1<0
  ·simp[ha]
  ·simp only[ha,decide_false,cond_false,if_false,l86,Qio hF4 h,Qwg hF h ct (show 0≤aI s b.2.1 by omega),Qxd,Zhs hF4 h,e2,e5,Option.bind_some,Zfi];generalize hel:elE m s ct b.2.1=el;by_cases p1:0<ct.2.2.2.2.2.2.2.2.2.2
   ·by_cases p2:b.1<m.2.1<;>simp[p1,p2,Qj]
   ·by_cases p2:b.1<m.2.1
    ·simp[p1,p2,Qj]
    ·by_cases p3:m.2.2.1<b.1
     ·simp[p1,p2,p3,Qj]
     ·by_cases p4:0≤eI s b.2.1 b.2.2.2.2.1
      ·simp[p1,p2,p3,p4,Qj]
      ·by_cases p5:el=0
       ·cases p6:J8 ct.2.1 b.2.2.2.2.2.2.2.1 with
        |false=>simp[p1,p2,p3,p4,p5,p6,Qj]
        |true=>have e205:=Zph hF4 hb s1 (Zae (k:=ct.2.1) p6 s2);simp only[Qaf,Qgt]at e205;simp only[p1,p2,p3,p4,p5,p6,Qj,or_false,if_false,if_true,decide_true,decide_false,Bool.not_true,Bool.false_eq_true,cond_false,Option.bind_some,e205,Qaf,Qgt];cases Qc ct.2.2.2.2.2.2.2.1 kN<;>by_cases p7:0<Wr (wE (b.2.2.2.2.2.2.2.1,b.2.2.2.2.2.2.2.2.1,b.2.2.2.2.2.2.2.2.2.1)) (wE (ct.2.2.2.2.2.2.2.1,ct.2.2.2.2.2.2.2.2.1,ct.2.2.2.2.2.2.2.2.2.1))<;>by_cases p8:m.2.2.2.1≤Qa5 s b.2.1<;>simp[p7,p8,Qj]
       ·simp[p1,p2,p3,p4,p5,Qj]
theorem Zp6{F:Nat}(hF:700≤F){m:Mt}(hm:m.2.2.2.2.length≤300){s:Qq}(h:Zi s)(k:ByteArray){b:Q1}(hv:mtE m=0)(hb:Jj (Qaf b)):Qru F (m,s,b.1,k,b.2)=some (V1 m s b):=by
 have hF4:400≤F:=by omega
 have hdC:Zc=dC:=rfl;have e47:c47 F (m,b.2.2.2.2.1)=some (cI m b.2.2.2.2.1):=l47 (by omega) (by omega) _;unfold Qru V1;simp only[Q3,e47,l40 hF4 h,hdC,Option.bind_some,Zfi];by_cases ha:aI s b.2.1<0
 ·simp[ha]
 ·by_cases hc:cI m b.2.2.2.2.1<0
  ·simp[ha,hc]
  ·obtain⟨s1,s2⟩:=Zbl hv (show 0≤cI m b.2.2.2.2.1 by omega);obtain⟨j,y,j1,j2,-,-⟩:=Km (p:=fun y:Cst=>Qc y.1 b.2.2.2.2.1) (l:=m.2.2.2.2) (show 0≤cI m b.2.2.2.2.1 by omega);have j1':cI m b.2.2.2.2.1=(j:Int):=j1;have hC:m.2.2.2.2.getD j dC=Yb m b.2.2.2.2.1:=by unfold Yb;rw[j1'];rfl
   have hnn:¬((j:Nat):Int)<0:=by omega
   simp only[ha,j1',hnn,or_self,decide_false,cond_false,if_false,Option.bind_some,l59 hF hm h (show 0≤aI s b.2.1 by omega) (show 0≤cI m b.2.2.2.2.1 by omega),l53 hF4 h,Qwd,Zbe hF4 h];simp(disch:=omega)only[Zd,Int.toNat_natCast,hC];generalize Yb m b.2.2.2.2.1=ct at s1 s2;generalize hel:elE m s ct b.2.1=el;by_cases p1:0<ct.2.2.2.2.2.2.2.2.2.2
   ·simp[p1]
   ·by_cases p2:b.1<m.2.1
    ·simp[p1,p2]
    ·by_cases p3:m.2.2.1<b.1
     ·simp[p1,p2,p3]
     ·by_cases p4:0≤eI s b.2.1 b.2.2.2.2.1
      ·simp[p1,p2,p3,p4]
      ·by_cases p5:el=0
       ·cases p6:J8 ct.2.1 b.2.2.2.2.2.2.2.1 with
        |false=>simp[p1,p2,p3,p4,p5,p6]
        |true=>have e57:=l57 F hb s1 (Zae (k:=ct.2.1) p6 s2);simp only[Qaf,Qgt]at e57;simp only[p1,p2,p3,p4,p5,p6,or_false,if_false,if_true,decide_true,decide_false,Bool.not_true,Bool.false_eq_true,cond_false,Option.bind_some,e57,Qaf,Qgt];cases Qc ct.2.2.2.2.2.2.2.1 kN<;>by_cases p7:0<Wr (wE (b.2.2.2.2.2.2.2.1,b.2.2.2.2.2.2.2.2.1,b.2.2.2.2.2.2.2.2.2.1)) (wE (ct.2.2.2.2.2.2.2.1,ct.2.2.2.2.2.2.2.2.1,ct.2.2.2.2.2.2.2.2.2.1))<;>by_cases p8:m.2.2.2.1≤Qa5 s b.2.1<;>simp[p7,p8]
       ·simp[p1,p2,p3,p4,p5]
def W4(m:Mt)(s:Qq)(b:Q1):Int:=if eI s b.2.1 b.2.2.2.2.1<0 then 10 else if m.1<b.1 then 20 else 0
def Qao(s:Qq)(a c:ByteArray):Zt:=s.2.2.2.1.getD (eI s a c).toNat dE
def W8(m:Mt)(s:Qq)(b:Q1):Int:=if eI s b.2.1 b.2.2.2.2.1<0 then 10 else if(Qao s b.2.1 b.2.2.2.2.1).2.2.2.2.2.2=true then 9 else if b.1=m.1 then 0 else 19
theorem Zxd{F:Nat}(hF:400≤F){m:Mt}{s:Qq}(h:Zi s)(k:ByteArray)(b:Q1):Qoi F (m,s,b.1,k,b.2)=some (W4 m s b):=by have e2:∀a b,Q0 F (a::b::Qa Int)=some (Qj [a,b]):=fun a b=>X6 hF (by simp[Qa]);unfold Qoi W4;simp only[Q3,Qio hF h,l86,e2,Option.bind_some];by_cases p1:eI s b.2.1 b.2.2.2.2.1<0<;>by_cases p2:m.1<b.1<;>simp[p1,p2,Qj]
theorem Zln{F:Nat}(hF:400≤F){m:Mt}{s:Qq}(h:Zi s)(k:ByteArray)(b:Q1):Qnl F (m,s,b.1,k,b.2)=some (W8 m s b):=by
 have e2:∀a b,Q0 F (a::b::Qa Int)=some (Qj [a,b]):=fun a b=>X6 hF (by simp[Qa]);unfold Qnl W8 Qao;simp only[Q3,tE,Qio hF h,l86,e2,Option.bind_some];by_cases p1:eI s b.2.1 b.2.2.2.2.1<0
 ·simp[p1]
 ·obtain⟨j,y,j1,j2,-,-⟩:=Km (p:=eP b.2.1 b.2.2.2.2.1) (l:=s.2.2.2.1) (show 0≤eI s b.2.1 b.2.2.2.2.1 by omega);have j1':eI s b.2.1 b.2.2.2.2.1=(j:Int):=j1;have hnn:¬((j:Nat):Int)<0:=by omega
  simp(disch:=omega)only[j1',hnn,decide_false,cond_false,if_false,Zd,Int.toNat_natCast];cases(s.2.2.2.1.getD j dE).2.2.2.2.2.2<;>by_cases p2:b.1=m.1<;>simp[p2,Qj]
def teE(m:Mt)(s:Qq)(b:Q1)(i:Nat):Int:=
 if aI s (b.2.2.2.2.2.2.2.2.2.2.getD i ByteArray.empty)<0 then 10
 else if Qc (Xc s (b.2.2.2.2.2.2.2.2.2.2.getD i ByteArray.empty)).2.1 b.2.2.1=true then
  (if hasB (b.2.2.2.2.2.2.2.2.2.2.take i) (b.2.2.2.2.2.2.2.2.2.2.getD i ByteArray.empty)=true then 9 else elE m s (Yb m b.2.2.2.2.1) (b.2.2.2.2.2.2.2.2.2.2.getD i ByteArray.empty))
 else 18
def Vz(m:Mt)(s:Qq)(b:Q1):Int:=
 if hasB s.1 b.2.2.1=false∨cI m b.2.2.2.2.1<0 then 10
 else if(Yb m b.2.2.2.2.1).2.2.2.2.2.2.2.2.2.2=0 then 13
 else if m.1<b.1 then 20
 else if(b.2.2.2.2.2.2.2.2.2.2.length:Int)=(Yb m b.2.2.2.2.1).2.2.2.2.2.2.2.2.2.2 then Qj ((List.range b.2.2.2.2.2.2.2.2.2.2.length).map (teE m s b))else 2
theorem Zpo{F:Nat}(hF:700≤F){m:Mt}{s:Qq}(h:Zi s)(k:ByteArray){b:Q1}(hb:b.2.2.2.2.2.2.2.2.2.2.length≤10){i:Nat}(hi:i<b.2.2.2.2.2.2.2.2.2.2.length):
  Qoz F ((i:Int),b.2.2.2.2.2.2.2.2.2.2.getD i ByteArray.empty,s,(b.1,k,b.2),m,Yb m b.2.2.2.2.1)=some (teE m s b i):=by
 have hF4:400≤F:=by omega
 have e3:∀a b c,Q0 F (a::b::c::Qa Int)=some (Qj [a,b,c]):=fun a b c=>X6 hF4 (by simp[Qa]);have hi':(i:Int)≤b.2.2.2.2.2.2.2.2.2.2.length:=by omega
 have e107:=Qmy hF4 (l:=b.2.2.2.2.2.2.2.2.2.2.take i) (x:=b.2.2.2.2.2.2.2.2.2.2.getD i ByteArray.empty) (by simp;omega);unfold Qoz teE;generalize b.2.2.2.2.2.2.2.2.2.2.getD i ByteArray.empty=x at e107;simp only[Q3,V0 hF4 h,Option.bind_some,Int.toNat_natCast,List.drop_zero];by_cases p1:aI s x<0
 ·simp[p1]
 ·have ha:0≤aI s x:=by omega
  have hcl:Qre s x=(Xc s x).2.1:=rfl;simp(disch:=omega)only[p1,decide_false,cond_false,if_false,Zd,e107,Ze6 hF4 h ha,hcl,Qwg hF h _ ha,l86,e3,Option.bind_some];generalize elE m s (Yb m b.2.2.2.2.1) x=el;cases Qc (Xc s x).2.1 b.2.2.1<;>cases hasB (b.2.2.2.2.2.2.2.2.2.2.take i) x<;>by_cases p2:el=0<;>simp[p2,Qj]
theorem Yek{F:Nat}(hF:700≤F){m:Mt}(hm:m.2.2.2.2.length≤300){s:Qq}(h:Zi s)(k:ByteArray){b:Q1}(hb:b.2.2.2.2.2.2.2.2.2.2.length≤10):Qq2 F (m,s,b.1,k,b.2)=some (Vz m s b):=by
 have hF4:400≤F:=by omega
 have e4:∀a b c d,Q0 F (a::b::c::d::Qa Int)=some (Qj [a,b,c,d]):=fun a b c d=>X6 hF4 (by simp[Qa]);unfold Qq2 Vz;simp only[Q3,Qjx hF4 hm,Qhf hF4 h,l86,e4,Option.bind_some];by_cases hc:cI m b.2.2.2.2.1<0
 ·simp[hc,Qj]
 ·simp only[hc,if_false,Bool.not_true,cond_false,or_false];have e100:Qqk F (b.2.2.2.2.2.2.2.2.2.2,s,(b.1,k,b.2),m,Yb m b.2.2.2.2.1)=some (Qj ((List.range b.2.2.2.2.2.2.2.2.2.2.length).map (teE m s b))):=by
   unfold Qqk;refine Um b.2.2.2.2.2.2.2.2.2.2.length (teE m s b) (by omega) (by omega) ?_ ?_ (Qci _)
   ·intro i hi;simp(disch:=omega)only[Zw,Zd,Int.toNat_natCast,Zv,Q3,Zpo hF h k hb hi,Option.bind_some,Qcv]
   ·simp(disch:=omega)only[Zz]
  simp only[e100,Option.bind_some];generalize Yb m b.2.2.2.2.1=ct;cases hasB s.1 b.2.2.1<;>by_cases p1:ct.2.2.2.2.2.2.2.2.2.2=0<;>by_cases p2:m.1<b.1<;>by_cases p3:(b.2.2.2.2.2.2.2.2.2.2.length:Int)=ct.2.2.2.2.2.2.2.2.2.2<;>simp[p1,p2,p3,Qj]
theorem Ydk{F:Nat}(hF:700≤F){m:Mt}(hm:m.2.2.2.2.length≤300){s:Qq}(h:Zi s)(k:ByteArray){b:Q1}(hb:b.2.2.2.2.2.2.2.2.2.2.length≤10):Qrt F (m,s,b.1,k,b.2)=some (Vz m s b):=by
 have hF4:400≤F:=by omega
 have hdC:Zc=dC:=rfl;have hdA:Zu=dA:=rfl;have e47:c47 F (m,b.2.2.2.2.1)=some (cI m b.2.2.2.2.1):=l47 (by omega) (by omega) _;have h1:=h.c;have e54:=l54 hF4 (l:=s.1) (by omega) b.2.2.1;unfold Qrt Vz;simp only[Q3,e47,e54,hdC,hdA,Option.bind_some];cases hasB s.1 b.2.2.1
 ·simp
 ·by_cases hc:cI m b.2.2.2.2.1<0
  ·simp[hc]
  ·obtain⟨j,y,j1,j2,-,-⟩:=Km (p:=fun y:Cst=>Qc y.1 b.2.2.2.2.1) (l:=m.2.2.2.2) (show 0≤cI m b.2.2.2.2.1 by omega);have j1':cI m b.2.2.2.2.1=(j:Int):=j1;have hC:m.2.2.2.2.getD j dC=Yb m b.2.2.2.2.1:=by unfold Yb;rw[j1'];rfl
   have hnn:¬((j:Nat):Int)<0:=by omega
   simp(disch:=omega)only[j1',hnn,Bool.not_true,Bool.true_eq_false,or_self,decide_false,cond_false,if_false,Option.bind_some,Zd,Int.toNat_natCast,hC];by_cases p1:(Yb m b.2.2.2.2.1).2.2.2.2.2.2.2.2.2.2=0
   ·simp[p1]
   ·by_cases p2:m.1<b.1
    ·simp[p1,p2]
    ·by_cases p3:(b.2.2.2.2.2.2.2.2.2.2.length:Int)=(Yb m b.2.2.2.2.1).2.2.2.2.2.2.2.2.2.2
     ·simp only[p1,p2,p3,decide_true,decide_false,Bool.not_true,cond_false,if_false,if_true];rw[←p3];refine Um b.2.2.2.2.2.2.2.2.2.2.length (teE m s b) (by omega) (by omega) ?_ ?_ (Qci _)
      ·intro i hi;have hi':(i:Int)≤b.2.2.2.2.2.2.2.2.2.2.length:=by omega
       have e54b:=fun x=>l54 hF4 (l:=b.2.2.2.2.2.2.2.2.2.2.take i) (by simp;omega) x;unfold teE Xc;simp(disch:=omega)only[Zw,Zd,Int.toNat_natCast,Zv,l40 hF4 h,List.drop_zero,e54b,Option.bind_some];generalize b.2.2.2.2.2.2.2.2.2.2.getD i ByteArray.empty=x;by_cases q1:aI s x<0
       ·simp[q1]
       ·have ha:0≤aI s x:=by omega
        obtain⟨ka,k1,k2⟩:=Qfg ha;have el:=l59 hF hm h ha (show 0≤cI m b.2.2.2.2.1 by omega);simp(disch:=omega)only[el,k1,Zd,Int.toNat_natCast,show¬((ka:Nat):Int)<0 by omega,decide_false,cond_false,if_false,Option.bind_some];generalize elE m s (Yb m b.2.2.2.2.1) x=el;cases Qc (s.2.1.getD ka dA).2.1 b.2.2.1<;>cases hasB (b.2.2.2.2.2.2.2.2.2.2.take i) x<;>by_cases q2:el=0<;>simp[q2]
      ·simp(disch:=omega)only[Zz]
     ·simp[p1,p2,p3]
end Go.Proofs.Tryz
section
namespace Go.Proofs.Tryz
open Go Go.Sx
end Go.Proofs.Tryz
end
section
namespace Go.Proofs.Tryz
open Go Go.Sx
noncomputable section
def Zh7(F:Nat):LK:=lN
def Qfv(F:Nat)(a:List ByteArray):Option (List ByteArray):=
 bif decide (a.length=0)then((gd (decide (List.length (Qa ByteArray++a)*(16:Nat)≤(140737488355328:Nat))) (gd (decide (List.length (Qa ByteArray++a)≤9223372036854775807)) (gd (decide ((0:Nat)+List.length (Qa ByteArray++a)≤List.length (Qa ByteArray++a))) (some (List.take (List.length (Qa ByteArray++a)) (List.drop (0:Nat) (Qa ByteArray++a))))))).bind fun(v4:List ByteArray)=>gd (Qm.eqv (Qd.val (Ty.seq Z2)::Qa Qd) (Qa ByteArray) v4) (some (Qa ByteArray)))else(gd (decide (List.length (Qa ByteArray++a)*(16:Nat)≤(140737488355328:Nat))) (gd (decide (List.length (Qa ByteArray++a)≤9223372036854775807)) (gd (decide ((0:Nat)+List.length (Qa ByteArray++a)≤List.length (Qa ByteArray++a))) (some (List.take (List.length (Qa ByteArray++a)) (List.drop (0:Nat) (Qa ByteArray++a)))))))
def Ymz(F:Nat):PC:={ats:=Qbx,rts:=Qbx,code:=Qfv F}
theorem Zj4(F:Nat)(a:List ByteArray):Zl cx (Zh7 F).x 1000 .leaf f150 (Qs f150) Qbx Qbx a=Qfv F a:=by kernel_rfl
theorem Qzq(F:Nat):Qg cx 150 (Ymz F):=Qg.Z0 Z1 (Zh7 F).ok (n:=1000) (an:=.leaf) (fn:=f150) (c:=Qs f150) (by kernel_rfl) (by kernel_rfl) (fun a y h=>(Zj4 F a).trans h) (by kernel_rfl)
def Zcs(F:Nat):LK:=lN
def Qf4(F:Nat)(a:List (Qt)):Option (List (Qt)):=
 bif decide (a.length=0)then((gd (decide (List.length (Qa (Qt)++a)*(56:Nat)≤(140737488355328:Nat))) (gd (decide (List.length (Qa (Qt)++a)≤9223372036854775807)) (gd (decide ((0:Nat)+List.length (Qa (Qt)++a)≤List.length (Qa (Qt)++a))) (some (List.take (List.length (Qa (Qt)++a)) (List.drop (0:Nat) (Qa (Qt)++a))))))).bind fun(v4:List (Qt))=>gd (Qm.eqv (Qd.val (Ty.seq Xi)::Qa Qd) (Qa (Qt)) v4) (some (Qa (Qt))))else(gd (decide (List.length (Qa (Qt)++a)*(56:Nat)≤(140737488355328:Nat))) (gd (decide (List.length (Qa (Qt)++a)≤9223372036854775807)) (gd (decide ((0:Nat)+List.length (Qa (Qt)++a)≤List.length (Qa (Qt)++a))) (some (List.take (List.length (Qa (Qt)++a)) (List.drop (0:Nat) (Qa (Qt)++a)))))))
def Zz3(F:Nat):PC:={ats:=Qe8,rts:=Qe8,code:=Qf4 F}
theorem Zxt(F:Nat)(a:List (Qt)):Zl cx (Zcs F).x 1000 .leaf f199 (Qs f199) Qe8 Qe8 a=Qf4 F a:=by kernel_rfl
theorem Yol(F:Nat):Qg cx 199 (Zz3 F):=Qg.Z0 Z1 (Zcs F).ok (n:=1000) (an:=.leaf) (fn:=f199) (c:=Qs f199) (by kernel_rfl) (by kernel_rfl) (fun a y h=>(Zxt F a).trans h) (by kernel_rfl)
def Zgt(F:Nat):LK:=lN
def Qdt(F:Nat)(a:List (Qx)):Option (List (Qx)):=
 bif decide (a.length=0)then((gd (decide (List.length (Qa (Qx)++a)*(32:Nat)≤(140737488355328:Nat))) (gd (decide (List.length (Qa (Qx)++a)≤9223372036854775807)) (gd (decide ((0:Nat)+List.length (Qa (Qx)++a)≤List.length (Qa (Qx)++a))) (some (List.take (List.length (Qa (Qx)++a)) (List.drop (0:Nat) (Qa (Qx)++a))))))).bind fun(v4:List (Qx))=>gd (Qm.eqv (Qd.val (Ty.seq Xp)::Qa Qd) (Qa (Qx)) v4) (some (Qa (Qx))))else(gd (decide (List.length (Qa (Qx)++a)*(32:Nat)≤(140737488355328:Nat))) (gd (decide (List.length (Qa (Qx)++a)≤9223372036854775807)) (gd (decide ((0:Nat)+List.length (Qa (Qx)++a)≤List.length (Qa (Qx)++a))) (some (List.take (List.length (Qa (Qx)++a)) (List.drop (0:Nat) (Qa (Qx)++a)))))))
def Yfc(F:Nat):PC:={ats:=Qew,rts:=Qew,code:=Qdt F}
theorem Yjv(F:Nat)(a:List (Qx)):Zl cx (Zgt F).x 1000 .leaf f200 (Qs f200) Qew Qew a=Qdt F a:=by kernel_rfl
theorem Zsm(F:Nat):Qg cx 200 (Yfc F):=Qg.Z0 Z1 (Zgt F).ok (n:=1000) (an:=.leaf) (fn:=f200) (c:=Qs f200) (by kernel_rfl) (by kernel_rfl) (fun a y h=>(Yjv F a).trans h) (by kernel_rfl)
def Zhx(F:Nat):LK:=lN
def Qbw(F:Nat)(a:List (Qi)):Option (List (Qi)):=
 bif decide (a.length=0)then((gd (decide (List.length (Qa (Qi)++a)*(88:Nat)≤(140737488355328:Nat))) (gd (decide (List.length (Qa (Qi)++a)≤9223372036854775807)) (gd (decide ((0:Nat)+List.length (Qa (Qi)++a)≤List.length (Qa (Qi)++a))) (some (List.take (List.length (Qa (Qi)++a)) (List.drop (0:Nat) (Qa (Qi)++a))))))).bind fun(v4:List (Qi))=>gd (Qm.eqv (Qd.val (Ty.seq Zo)::Qa Qd) (Qa (Qi)) v4) (some (Qa (Qi))))else(gd (decide (List.length (Qa (Qi)++a)*(88:Nat)≤(140737488355328:Nat))) (gd (decide (List.length (Qa (Qi)++a)≤9223372036854775807)) (gd (decide ((0:Nat)+List.length (Qa (Qi)++a)≤List.length (Qa (Qi)++a))) (some (List.take (List.length (Qa (Qi)++a)) (List.drop (0:Nat) (Qa (Qi)++a)))))))
def Ycu(F:Nat):PC:={ats:=Qb2,rts:=Qb2,code:=Qbw F}
theorem Yeb(F:Nat)(a:List (Qi)):Zl cx (Zhx F).x 1000 .leaf f201 (Qs f201) Qb2 Qb2 a=Qbw F a:=by kernel_rfl
theorem Yjn(F:Nat):Qg cx 201 (Ycu F):=Qg.Z0 Z1 (Zhx F).ok (n:=1000) (an:=.leaf) (fn:=f201) (c:=Qs f201) (by kernel_rfl) (by kernel_rfl) (fun a y h=>(Yeb F a).trans h) (by kernel_rfl)
end
end Go.Proofs.Tryz
end
section
namespace Go.Proofs.Tryz
open Go Go.Sx
noncomputable section
end
end Go.Proofs.Tryz
end
namespace Go.Proofs.Tryz
open Go Go.Sx
theorem Zdr{F:Nat}{l:List ByteArray}(h:l.length≤1000):Qfv F l=some l:=by
 have e:Qa ByteArray++l=l:=rfl;have h1:l.length*16≤140737488355328:=by omega
 have h2:l.length≤9223372036854775807:=by omega
 unfold Qfv;simp only[e,h1,h2,Nat.zero_add,Nat.le_refl,decide_true,Zh,List.drop_zero,List.take_length,Option.bind_some];by_cases h0:l.length=0
 ·obtain rfl:=List.eq_nil_of_length_eq_zero h0;rfl
 ·simp only[h0,decide_false,cond_false]
noncomputable def Zlp(F:Nat):LK:=lN
noncomputable def c81(F:Nat)(a:PUnit):Option (Q7):=
 some (((8000:Int),(7900:Int),(7990:Int),(2:Int),({data:=List.toArray (115::112::114::105::110::116::Qa UInt8)},{data:=List.toArray (116::105::109::101::Qa UInt8)},(ByteArray.mk (List.toArray (Qa UInt8))),(16:Int),(40:Int),(2:Int),(1:Int),{data:=List.toArray (116::105::109::101::Qa UInt8)},(120000:Int),(ByteArray.mk (List.toArray (Qa UInt8))),(0:Int))::({data:=List.toArray (106::117::109::112::Qa UInt8)},{data:=List.toArray (108::101::110::103::116::104::Qa UInt8)},(ByteArray.mk (List.toArray (Qa UInt8))),(16:Int),(40:Int),(8:Int),(2:Int),{data:=List.toArray (110::111::110::101::Qa UInt8)},(0:Int),{data:=List.toArray (78::77::Qa UInt8)},(0:Int))::({data:=List.toArray (114::101::108::97::121::Qa UInt8)},{data:=List.toArray (116::105::109::101::Qa UInt8)},(ByteArray.mk (List.toArray (Qa UInt8))),(16:Int),(40:Int),(8:Int),(1:Int),{data:=List.toArray (110::111::110::101::Qa UInt8)},(0:Int),{data:=List.toArray (78::77::Qa UInt8)},(2:Int))::Qa (Yg)))
noncomputable def Zf2(F:Nat):PC:={ats:=[],rts:=[.agg Xs],code:=c81 F}
theorem Ykn(F:Nat):Qg cx 81 (Zf2 F):=qE (Zlp F) .leaf f81 (by kernel_rfl) fun a=>by kernel_rfl
noncomputable def Zw4(F:Nat):LK:=lN
noncomputable def c83(F:Nat)(a:Int):Option (ByteArray×Int×ByteArray):=
 some (({data:=List.toArray (116::105::109::101::Qa UInt8)},w64 ((100:Int)*a),(ByteArray.mk (List.toArray (Qa UInt8)))))
noncomputable def Qu4(F:Nat):PC:={ats:=Zg,rts:=[.agg Wx],code:=c83 F}
theorem Zd8(F:Nat):Qg cx 83 (Qu4 F):=qE (Zw4 F) .leaf f83 (by kernel_rfl) fun a=>by kernel_rfl
end Go.Proofs.Tryz
