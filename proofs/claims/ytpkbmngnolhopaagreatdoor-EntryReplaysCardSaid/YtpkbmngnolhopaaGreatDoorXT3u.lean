/- Plain law: who is eligible; acts that are legal, about a club, an athlete, a licence. Plain law: entries, withdrawals, checks and teams that are legal. And further parts. -/
import Derived.Test.YtpkbmngnolhopaaGreatDoorXT3i
import Derived.Test.YtpkbmngnolhopaaGreatDoorXT3n
set_option maxRecDepth 100000
set_option linter.unusedVariables false
set_option linter.unusedSimpArgs false
set_option linter.all false
namespace Go.Proofs.Tryz
open Go Go.Sx
theorem Zd5:({data:=List.toArray (Qa UInt8)}:ByteArray)=k0:=rfl
def Yv(s:Qo)(x:ByteArray):Ath:=s.2.1.getD (aI s x).toNat dA
def Qo0(m:Mt)(s:Qo)(x:ByteArray):Int:=w64 (Int.tdiv (w64 (m.1-(Yv s x).2.2.1)) 365)
def elE(m:Mt)(s:Qo)(c:Cst)(x:ByteArray):Int:=
 if(!Qc c.2.2.1 k0&& !Qc c.2.2.1 (Yv s x).2.2.2)=true then 18
 else if m.1<(Yv s x).2.2.1∨Qo0 m s x<c.2.2.2.1∨c.2.2.2.2.1<Qo0 m s x then 18
 else if(s.2.2.1.any (Ks x m.1))=true then 0 else 7
theorem Zg4{F:Nat}(hF:700≤F){m:Mt}{s:Qo}(h:Zn s)(c:Cst){x:ByteArray}(hx:0≤aI s x):Qg0 F (s,m,c,x)=some (elE m s c x):=by
 have hF4:400≤F:=by omega
 obtain⟨k,h1,h2⟩:=Qeo hx;have hl:=h.l;have hd:Zx=dA:=rfl;have e3:∀a b c,Qy F (a::b::c::Qa Int)=some (Qp [a,b,c]):=fun a b c=>Ww hF4 (by simp[Qa]);have hA:s.2.1.getD k dA=Yv s x:=by unfold Yv;rw[h1];rfl
 have e147:=Yg0 (F:=F) (l:=s.2.2.1) (by omega) (by omega) x m.1;unfold Qg0 elE Qo0;simp only[Zh,Qbm hF4 h,Option.bind_some,h1,hd,Zd5];simp(disch:=omega)only[Zc,Int.toNat_natCast,hA,e147,l86,e3,Option.bind_some];generalize Yv s x=a;generalize s.2.2.1.any (Ks x m.1)=lb;generalize w64 (Int.tdiv (w64 (m.1-a.2.2.1)) 365)=ag;cases Qc c.2.2.1 k0<;>cases Qc c.2.2.1 a.2.2.2<;>by_cases p1:m.1<a.2.2.1<;>by_cases p2:ag<c.2.2.2.1<;>by_cases p3:c.2.2.2.2.1<ag<;>cases lb<;>
  simp[p1,p2,p3,Qp,Kd,Zbp,Zez,Za]
theorem l59{F:Nat}(hF:700≤F){m:Mt}(hm:m.2.2.2.2.length≤300){s:Qo}(h:Zn s){x c:ByteArray}(hx:0≤aI s x)(hc:0≤cI m c):c59 F (m,s,x,c)=some (elE m s (cAt m c) x):=by
 have hF4:400≤F:=by omega
 obtain⟨k,h1,h2⟩:=Qeo hx;obtain⟨j,y,j1,j2,-,-⟩:=Ul hc;have j1':Y4 (fun y:Cst=>Qc y.1 c) m.2.2.2.2=(j:Int):=j1;have hC:m.2.2.2.2.getD j dC=cAt m c:=by unfold cAt cI;rw[j1'];rfl
 have hl:=h.l;have hd:Zx=dA:=rfl;have hdC:Q7=dC:=rfl;have hA:s.2.1.getD k dA=Yv s x:=by unfold Yv;rw[h1];rfl
 have e68:=l68 (F:=F) (l:=s.2.2.1) (by omega) (by omega) x m.1;unfold c59 elE Qo0 tw;simp only[Zh,l40 hF4 h,l47 (F:=F) (m:=m) (by omega) (by omega),Option.bind_some,h1,j1',hd,hdC,Zd5];simp(disch:=omega)only[Zc,Int.toNat_natCast,hA,hC,e68,Option.bind_some];generalize Yv s x=a;generalize cAt m c=ct;generalize s.2.2.1.any (Ks x m.1)=lb;generalize w64 (Int.tdiv (w64 (m.1-a.2.2.1)) 365)=ag;cases Qc ct.2.2.1 k0<;>cases Qc ct.2.2.1 a.2.2.2<;>by_cases p1:m.1<a.2.2.1<;>by_cases p2:ag<ct.2.2.2.1<;>by_cases p3:ct.2.2.2.2.1<ag<;>cases lb<;>
  simp[p1,p2,p3,Kd,Zbp,Zez,Za]
def Uk(s:Qo)(x:ByteArray):Int:=((s.2.2.2.1.filter fun e=>Qc e.1 x).length:Int)
theorem Za0{F:Nat}(hF:400≤F){s:Qo}(h:Zn s)(x:ByteArray):Qf7 F (s,x)=some (Uk s x):=by
 have h1:=h.e;unfold Qf7 Uk;simp only[tE];refine Xr s.2.2.2.1 (fun n j=>(n,(j:Int))) (fun y n=>.inl (if Qc y.1 x=true then n+1 else n)) (fun n=>n) (fun j n=>0≤n∧n≤j) 0 (by omega) rfl ⟨by omega,by omega⟩ ?_ ?_ ?_
 ·intro j y n hj hy hn;refine⟨?_,fun s' hs=>?_⟩
  ·simp(disch:=omega)only[Z7,Zc,Int.toNat_natCast,getD_some hy,Z0];cases Qc y.1 x<;>rfl
  ·simp only[Sum.inl.injEq]at hs;subst hs;split<;>omega
 ·intro n _;simp(disch:=omega)only[Z8]
 ·rw[Qg3 (fun n (y:Zr)=>if Qc y.1 x=true then n+1 else n),Qwn (fun y:Zr=>Qc y.1 x),Int.zero_add]
theorem Qyq{F:Nat}(hF:400≤F){s:Qo}(h:Zn s)(x:ByteArray):Qj2 F (s,x)=some (Uk s x):=by
 have h1:=h.e;unfold Qj2 Uk;simp only[tE];refine Xr s.2.2.2.1 (fun n j=>(n,(j:Int))) (fun y n=>.inl (if Qc y.1 x=true then n+1 else n)) (fun n=>n) (fun j n=>0≤n∧n≤j) 0 (by omega) rfl ⟨by omega,by omega⟩ ?_ ?_ ?_
 ·intro j y n hj hy hn;refine⟨?_,fun s' hs=>?_⟩
  ·simp(disch:=omega)only[Z7,Zc,Int.toNat_natCast,getD_some hy,Z0];cases Qc y.1 x<;>rfl
  ·simp only[Sum.inl.injEq]at hs;subst hs;split<;>omega
 ·intro n _;simp(disch:=omega)only[Z8]
 ·rw[Qg3 (fun n (y:Zr)=>if Qc y.1 x=true then n+1 else n),Qwn (fun y:Zr=>Qc y.1 x),Int.zero_add]
def Qba(s:Qo)(b:Qz):Int:=if hasB s.1 b.2.2.1=true then 9 else 0
def Qcf(s:Qo)(b:Qz):Int:=if hasB s.1 b.2.2.1=true then(if 0≤aI s b.2.1 then 9 else if b.1<b.2.2.2.2.2.1 then 3 else 0)else 10
def Qbj(s:Qo)(b:Qz):Int:=if aI s b.2.1<0 then 10 else 0
def K7(s:Qo)(b:Qz):Int:=if aI s b.2.1<0 then 10 else if hasB s.1 b.2.2.1=true then(if Qc (Yv s b.2.1).2.1 b.2.2.1=true then 9 else if 0<Uk s b.2.1 then 19 else 0)else 10
theorem Ydt{F:Nat}(hF:400≤F){m:Mt}{s:Qo}(h:Zn s)(k:ByteArray)(b:Qz):Qpv F (m,s,b.1,k,b.2)=some (Qba s b):=by unfold Qpv Qba;simp only[Zh,Qni hF h,l86,Option.bind_some]
theorem Zqs{F:Nat}(hF:400≤F){m:Mt}{s:Qo}(h:Zn s)(k:ByteArray)(b:Qz):Qng F (m,s,b.1,k,b.2)=some (Qcf s b):=by have e3:∀a b c,Qy F (a::b::c::Qa Int)=some (Qp [a,b,c]):=fun a b c=>Ww hF (by simp[Qa]);unfold Qng Qcf;simp only[Zh,Qni hF h,Qbm hF h,l86,e3,Option.bind_some];cases hasB s.1 b.2.2.1<;>by_cases p1:0≤aI s b.2.1<;>by_cases p2:b.1<b.2.2.2.2.2.1<;>simp[p1,p2,Qp]
theorem Zvq{F:Nat}(hF:400≤F){m:Mt}{s:Qo}(h:Zn s)(k:ByteArray)(b:Qz):Qmp F (m,s,b.1,k,b.2)=some (Qbj s b):=by unfold Qmp Qbj;simp only[Zh,Qbm hF h,l86,Option.bind_some,decide_eq_true_eq]
theorem Ykj{F:Nat}(hF:400≤F){m:Mt}{s:Qo}(h:Zn s)(k:ByteArray)(b:Qz):Qpx F (m,s,b.1,k,b.2)=some (K7 s b):=by
 have e2:∀a b,Qy F (a::b::Qa Int)=some (Qp [a,b]):=fun a b=>Ww hF (by simp[Qa]);unfold Qpx K7;simp only[Zh,Qbm hF h,Qni hF h,Option.bind_some];by_cases p1:aI s b.2.1<0
 ·simp[p1]
 ·have hcl:Qnx s b.2.1=(Yv s b.2.1).2.1:=rfl;simp only[p1,decide_false,cond_false,if_false,Zep hF h (show 0≤aI s b.2.1 by omega),Za0 hF h,hcl,l86,e2,Option.bind_some];cases hasB s.1 b.2.2.1<;>cases Qc (Yv s b.2.1).2.1 b.2.2.1<;>by_cases p2:0<Uk s b.2.1<;>simp[p2,Qp]
theorem Qm8{F:Nat}(hF:400≤F){s:Qo}(h:Zn s)(k:ByteArray)(b:Qz):Ql8 F (s,b.1,k,b.2)=some (if Qc k Ym=true then Qba s b else if Qc k Yl=true then Qcf s b else if Qc k Yg=true then K7 s b else Qbj s b):=by
 have hd:Zx=dA:=rfl;have h1:=h.c;have e54:=l54 hF (l:=s.1) (by omega) b.2.2.1;unfold Ql8;simp only[Zh,e54,l40 hF h,hd,Qyq hF h,Option.bind_some];change (bif Qc k Ym then _ else _)=_;cases q1:Qc k Ym
 ·simp only[cond_false,Bool.false_eq_true,if_false];change (bif Qc k Yl then _ else _)=_;cases q2:Qc k Yl
  ·simp only[cond_false,Bool.false_eq_true,if_false];rw[show Qc k {data:=List.toArray ((116:UInt8)::(114:UInt8)::(97:UInt8)::(110:UInt8)::(115:UInt8)::(102:UInt8)::(101:UInt8)::(114:UInt8)::Qa UInt8)}=Qc k Yg from rfl];cases q3:Qc k Yg
   ·unfold Qbj;by_cases p1:aI s b.2.1<0<;>simp[p1]
   ·unfold K7 Yv;by_cases p1:aI s b.2.1<0
    ·simp[p1]
    ·obtain⟨j,j1,j2⟩:=Qeo (show 0≤aI s b.2.1 by omega);simp(disch:=omega)only[j1,p1,Zc,Int.toNat_natCast];cases hasB s.1 b.2.2.1<;>cases Qc (s.2.1.getD j dA).2.1 b.2.2.1<;>by_cases p2:0<Uk s b.2.1<;>simp[p2,show¬((j:Nat):Int)<0 by omega]
  ·unfold Qcf;cases hasB s.1 b.2.2.1<;>by_cases p1:0≤aI s b.2.1<;>by_cases p2:b.1<b.2.2.2.2.2.1<;>simp[p1,p2]
 ·unfold Qba;cases hasB s.1 b.2.2.1<;>rfl
def Qhb(c:Cst):Mk:=(c.2.2.2.2.2.2.2.1,c.2.2.2.2.2.2.2.2.1,c.2.2.2.2.2.2.2.2.2.1)
def Kw(b:Qz):Mk:=(b.2.2.2.2.2.2.2.1,b.2.2.2.2.2.2.2.2.1,b.2.2.2.2.2.2.2.2.2.1)
theorem Zb2{m:Mt}(hv:Ye m=0){x:ByteArray}(hc:0≤cI m x):X5 (Qhb (cAt m x))∧Wh (cAt m x).2.1 (cAt m x).2.2.2.2.2.2.2.1=true:=by
 obtain⟨j,y,j1,j2,-,-⟩:=Ul hc;have j1':cI m x=(j:Int):=j1;have hC:m.2.2.2.2.getD j dC=cAt m x:=by unfold cAt;rw[j1'];rfl
 unfold Ye at hv;split at hv
 ·cases hv
 ·split at hv
  ·cases hv
  ·split at hv
   ·cases hv
   ·split at hv
    ·cases hv
    ·have h:=Qaa hv _ (List.mem_map.2 ⟨j,List.mem_range.2 j2,rfl⟩);unfold J6 at h;rw[hC]at h;split at h
     ·split at h
      ·cases h
      ·unfold Qfd at h;split at h
       ·cases h
       ·split at h
        ·cases h
        ·split at h
         ·cases h
         ·split at h
          ·cases h
          ·split at h
           ·cases h
           ·split at h
            ·rename_i hm1;split at h
             ·rename_i hm2;exact⟨hm1,hm2⟩
             ·cases h
            ·rename_i hm1;exact absurd h hm1
     ·cases h
theorem Zfj{k:ByteArray}{x y:Mk}(h1:Wh k x.1=true)(h2:Wh k y.1=true):Qdq x y:=by
 unfold Wh at h1 h2;simp only[Bool.or_eq_true]at h1 h2;unfold Qdq;rcases h1 with h1|h1
 ·rcases h2 with h2|h2
  ·right;right;rw[Xj.1 h1,Xj.1 h2];exact Qf5 _
  ·exact .inr (.inl h2)
 ·exact .inl h1
def Qb9(m:Mt)(s:Qo)(b:Qz):Int:=
 if aI s b.2.1<0∨cI m b.2.2.2.2.1<0 then 10
 else if 0<(cAt m b.2.2.2.2.1).2.2.2.2.2.2.2.2.2.2 then 13
 else if b.1<m.2.1∨m.2.2.1<b.1 then 19
 else if 0≤eI s b.2.1 b.2.2.2.2.1 then 9
 else if elE m s (cAt m b.2.2.2.2.1) b.2.1=0 then
  (if Wh (cAt m b.2.2.2.2.1).2.1 b.2.2.2.2.2.2.2.1 = true then
   (if Qc (cAt m b.2.2.2.2.1).2.2.2.2.2.2.2.1 kN=false∧0<Wj (wE (Kw b)) (wE (Qhb (cAt m b.2.2.2.2.1)))then 30 else if m.2.2.2.1≤Uk s b.2.1 then 5 else 0)
   else 30)
 else elE m s (cAt m b.2.2.2.2.1) b.2.1
theorem Zaf:({data:=List.toArray ((110:UInt8)::(111:UInt8)::(110:UInt8)::(101:UInt8)::Qa UInt8)}:ByteArray)=kN:=rfl
theorem Yg3{F:Nat}(hF:700≤F){m:Mt}(hm:m.2.2.2.2.length≤300){s:Qo}(h:Zn s)(k:ByteArray){b:Qz}(hv:Ye m=0)(hb:X5 (Kw b)):Qnq F (m,s,b.1,k,b.2)=some (Qb9 m s b):=by
 have hF4:400≤F:=by omega
 have e2:∀a b,Qy F (a::b::Qa Int)=some (Qp [a,b]):=fun a b=>Ww hF4 (by simp[Qa]);have e5:∀a b c d e,Qy F (a::b::c::d::e::Qa Int)=some (Qp [a,b,c,d,e]):=fun a b c d e=>Ww hF4 (by simp[Qa]);unfold Qnq Qb9;simp only[Zh,Zha hF4 hm,Option.bind_some];by_cases hc:cI m b.2.2.2.2.1<0
 ·simp[hc]
 ·obtain⟨s1,s2⟩:=Zb2 hv (show 0≤cI m b.2.2.2.2.1 by omega);simp only[hc,if_false,Bool.not_true,cond_false,or_false,Qbm hF4 h,Option.bind_some];generalize cAt m b.2.2.2.2.1=ct at s1 s2;by_cases ha:aI s b.2.1<0
  ·simp[ha]
  ·simp only[ha,decide_false,cond_false,if_false,l86,Qj3 hF4 h,Zg4 hF h ct (show 0≤aI s b.2.1 by omega),Qwx,Za0 hF4 h,e2,e5,Option.bind_some,Zaf];generalize hel:elE m s ct b.2.1=el;by_cases p1:0<ct.2.2.2.2.2.2.2.2.2.2
   ·by_cases p2:b.1<m.2.1<;>simp[p1,p2,Qp]
   ·by_cases p2:b.1<m.2.1
    ·simp[p1,p2,Qp]
    ·by_cases p3:m.2.2.1<b.1
     ·simp[p1,p2,p3,Qp]
     ·by_cases p4:0≤eI s b.2.1 b.2.2.2.2.1
      ·simp[p1,p2,p3,p4,Qp]
      ·by_cases p5:el=0
       ·cases p6:Wh ct.2.1 b.2.2.2.2.2.2.2.1 with
        |false=>simp[p1,p2,p3,p4,p5,p6,Qp]
        |true=>have e205:=Zmv hF4 hb s1 (Zfj (k:=ct.2.1) p6 s2);simp only[Kw,Qhb]at e205;simp only[p1,p2,p3,p4,p5,p6,Qp,or_false,if_false,if_true,decide_true,decide_false,Bool.not_true,Bool.false_eq_true,cond_false,Option.bind_some,e205,Kw,Qhb];cases Qc ct.2.2.2.2.2.2.2.1 kN<;>by_cases p7:0<Wj (wE (b.2.2.2.2.2.2.2.1,b.2.2.2.2.2.2.2.2.1,b.2.2.2.2.2.2.2.2.2.1)) (wE (ct.2.2.2.2.2.2.2.1,ct.2.2.2.2.2.2.2.2.1,ct.2.2.2.2.2.2.2.2.2.1))<;>by_cases p8:m.2.2.2.1≤Uk s b.2.1<;>simp[p7,p8,Qp]
       ·simp[p1,p2,p3,p4,p5,Qp]
theorem Zmk{F:Nat}(hF:700≤F){m:Mt}(hm:m.2.2.2.2.length≤300){s:Qo}(h:Zn s)(k:ByteArray){b:Qz}(hv:Ye m=0)(hb:X5 (Kw b)):Qlg F (m,s,b.1,k,b.2)=some (Qb9 m s b):=by
 have hF4:400≤F:=by omega
 have hdC:Q7=dC:=rfl;have e47:c47 F (m,b.2.2.2.2.1)=some (cI m b.2.2.2.2.1):=l47 (by omega) (by omega) _;unfold Qlg Qb9;simp only[Zh,e47,l40 hF4 h,hdC,Option.bind_some,Zaf];by_cases ha:aI s b.2.1<0
 ·simp[ha]
 ·by_cases hc:cI m b.2.2.2.2.1<0
  ·simp[ha,hc]
  ·obtain⟨s1,s2⟩:=Zb2 hv (show 0≤cI m b.2.2.2.2.1 by omega);obtain⟨j,y,j1,j2,-,-⟩:=Ul (p:=fun y:Cst=>Qc y.1 b.2.2.2.2.1) (l:=m.2.2.2.2) (show 0≤cI m b.2.2.2.2.1 by omega);have j1':cI m b.2.2.2.2.1=(j:Int):=j1;have hC:m.2.2.2.2.getD j dC=cAt m b.2.2.2.2.1:=by unfold cAt;rw[j1'];rfl
   have hnn:¬((j:Nat):Int)<0:=by omega
   simp only[ha,j1',hnn,or_self,decide_false,cond_false,if_false,Option.bind_some,l59 hF hm h (show 0≤aI s b.2.1 by omega) (show 0≤cI m b.2.2.2.2.1 by omega),l53 hF4 h,Qy1,Qyq hF4 h];simp(disch:=omega)only[Zc,Int.toNat_natCast,hC];generalize cAt m b.2.2.2.2.1=ct at s1 s2;generalize hel:elE m s ct b.2.1=el;by_cases p1:0<ct.2.2.2.2.2.2.2.2.2.2
   ·simp[p1]
   ·by_cases p2:b.1<m.2.1
    ·simp[p1,p2]
    ·by_cases p3:m.2.2.1<b.1
     ·simp[p1,p2,p3]
     ·by_cases p4:0≤eI s b.2.1 b.2.2.2.2.1
      ·simp[p1,p2,p3,p4]
      ·by_cases p5:el=0
       ·cases p6:Wh ct.2.1 b.2.2.2.2.2.2.2.1 with
        |false=>simp[p1,p2,p3,p4,p5,p6]
        |true=>have e57:=l57 F hb s1 (Zfj (k:=ct.2.1) p6 s2);simp only[Kw,Qhb]at e57;simp only[p1,p2,p3,p4,p5,p6,or_false,if_false,if_true,decide_true,decide_false,Bool.not_true,Bool.false_eq_true,cond_false,Option.bind_some,e57,Kw,Qhb];cases Qc ct.2.2.2.2.2.2.2.1 kN<;>by_cases p7:0<Wj (wE (b.2.2.2.2.2.2.2.1,b.2.2.2.2.2.2.2.2.1,b.2.2.2.2.2.2.2.2.2.1)) (wE (ct.2.2.2.2.2.2.2.1,ct.2.2.2.2.2.2.2.2.1,ct.2.2.2.2.2.2.2.2.2.1))<;>by_cases p8:m.2.2.2.1≤Uk s b.2.1<;>simp[p7,p8]
       ·simp[p1,p2,p3,p4,p5]
def U7(m:Mt)(s:Qo)(b:Qz):Int:=if eI s b.2.1 b.2.2.2.2.1<0 then 10 else if m.1<b.1 then 20 else 0
def Uy(s:Qo)(a c:ByteArray):Zr:=s.2.2.2.1.getD (eI s a c).toNat dE
def Qaj(m:Mt)(s:Qo)(b:Qz):Int:=if eI s b.2.1 b.2.2.2.2.1<0 then 10 else if(Uy s b.2.1 b.2.2.2.2.1).2.2.2.2.2.2=true then 9 else if b.1=m.1 then 0 else 19
theorem Zpv{F:Nat}(hF:400≤F){m:Mt}{s:Qo}(h:Zn s)(k:ByteArray)(b:Qz):Qme F (m,s,b.1,k,b.2)=some (U7 m s b):=by have e2:∀a b,Qy F (a::b::Qa Int)=some (Qp [a,b]):=fun a b=>Ww hF (by simp[Qa]);unfold Qme U7;simp only[Zh,Qj3 hF h,l86,e2,Option.bind_some];by_cases p1:eI s b.2.1 b.2.2.2.2.1<0<;>by_cases p2:m.1<b.1<;>simp[p1,p2,Qp]
theorem Zwh{F:Nat}(hF:400≤F){m:Mt}{s:Qo}(h:Zn s)(k:ByteArray)(b:Qz):Qpf F (m,s,b.1,k,b.2)=some (Qaj m s b):=by
 have e2:∀a b,Qy F (a::b::Qa Int)=some (Qp [a,b]):=fun a b=>Ww hF (by simp[Qa]);unfold Qpf Qaj Uy;simp only[Zh,tE,Qj3 hF h,l86,e2,Option.bind_some];by_cases p1:eI s b.2.1 b.2.2.2.2.1<0
 ·simp[p1]
 ·obtain⟨j,y,j1,j2,-,-⟩:=Ul (p:=eP b.2.1 b.2.2.2.2.1) (l:=s.2.2.2.1) (show 0≤eI s b.2.1 b.2.2.2.2.1 by omega);have j1':eI s b.2.1 b.2.2.2.2.1=(j:Int):=j1;have hnn:¬((j:Nat):Int)<0:=by omega
  simp(disch:=omega)only[j1',hnn,decide_false,cond_false,if_false,Zc,Int.toNat_natCast];cases(s.2.2.2.1.getD j dE).2.2.2.2.2.2<;>by_cases p2:b.1=m.1<;>simp[p2,Qp]
def teE(m:Mt)(s:Qo)(b:Qz)(i:Nat):Int:=
 if aI s (b.2.2.2.2.2.2.2.2.2.2.getD i ByteArray.empty)<0 then 10
 else if Qc (Yv s (b.2.2.2.2.2.2.2.2.2.2.getD i ByteArray.empty)).2.1 b.2.2.1=true then
  (if hasB (b.2.2.2.2.2.2.2.2.2.2.take i) (b.2.2.2.2.2.2.2.2.2.2.getD i ByteArray.empty)=true then 9 else elE m s (cAt m b.2.2.2.2.1) (b.2.2.2.2.2.2.2.2.2.2.getD i ByteArray.empty))
 else 18
def Qbt(m:Mt)(s:Qo)(b:Qz):Int:=
 if hasB s.1 b.2.2.1=false∨cI m b.2.2.2.2.1<0 then 10
 else if(cAt m b.2.2.2.2.1).2.2.2.2.2.2.2.2.2.2=0 then 13
 else if m.1<b.1 then 20
 else if(b.2.2.2.2.2.2.2.2.2.2.length:Int)=(cAt m b.2.2.2.2.1).2.2.2.2.2.2.2.2.2.2 then Qp ((List.range b.2.2.2.2.2.2.2.2.2.2.length).map (teE m s b))else 2
theorem Ykk{F:Nat}(hF:700≤F){m:Mt}{s:Qo}(h:Zn s)(k:ByteArray){b:Qz}(hb:b.2.2.2.2.2.2.2.2.2.2.length≤10){i:Nat}(hi:i<b.2.2.2.2.2.2.2.2.2.2.length):
  Qpk F ((i:Int),b.2.2.2.2.2.2.2.2.2.2.getD i ByteArray.empty,s,(b.1,k,b.2),m,cAt m b.2.2.2.2.1)=some (teE m s b i):=by
 have hF4:400≤F:=by omega
 have e3:∀a b c,Qy F (a::b::c::Qa Int)=some (Qp [a,b,c]):=fun a b c=>Ww hF4 (by simp[Qa]);have hi':(i:Int)≤b.2.2.2.2.2.2.2.2.2.2.length:=by omega
 have e107:=Zf6 hF4 (l:=b.2.2.2.2.2.2.2.2.2.2.take i) (x:=b.2.2.2.2.2.2.2.2.2.2.getD i ByteArray.empty) (by simp;omega);unfold Qpk teE;generalize b.2.2.2.2.2.2.2.2.2.2.getD i ByteArray.empty=x at e107;simp only[Zh,Qbm hF4 h,Option.bind_some,Int.toNat_natCast,List.drop_zero];by_cases p1:aI s x<0
 ·simp[p1]
 ·have ha:0≤aI s x:=by omega
  have hcl:Qnx s x=(Yv s x).2.1:=rfl;simp(disch:=omega)only[p1,decide_false,cond_false,if_false,Zc,e107,Zep hF4 h ha,hcl,Zg4 hF h _ ha,l86,e3,Option.bind_some];generalize elE m s (cAt m b.2.2.2.2.1) x=el;cases Qc (Yv s x).2.1 b.2.2.1<;>cases hasB (b.2.2.2.2.2.2.2.2.2.2.take i) x<;>by_cases p2:el=0<;>simp[p2,Qp]
theorem Zqh{F:Nat}(hF:700≤F){m:Mt}(hm:m.2.2.2.2.length≤300){s:Qo}(h:Zn s)(k:ByteArray){b:Qz}(hb:b.2.2.2.2.2.2.2.2.2.2.length≤10):Qo1 F (m,s,b.1,k,b.2)=some (Qbt m s b):=by
 have hF4:400≤F:=by omega
 have e4:∀a b c d,Qy F (a::b::c::d::Qa Int)=some (Qp [a,b,c,d]):=fun a b c d=>Ww hF4 (by simp[Qa]);unfold Qo1 Qbt;simp only[Zh,Zha hF4 hm,Qni hF4 h,l86,e4,Option.bind_some];by_cases hc:cI m b.2.2.2.2.1<0
 ·simp[hc,Qp]
 ·simp only[hc,if_false,Bool.not_true,cond_false,or_false];have e100:Qpm F (b.2.2.2.2.2.2.2.2.2.2,s,(b.1,k,b.2),m,cAt m b.2.2.2.2.1)=some (Qp ((List.range b.2.2.2.2.2.2.2.2.2.2.length).map (teE m s b))):=by
   unfold Qpm;refine Qub b.2.2.2.2.2.2.2.2.2.2.length (teE m s b) (by omega) (by omega) ?_ ?_ (Qzm _)
   ·intro i hi;simp(disch:=omega)only[Z7,Zc,Int.toNat_natCast,Z0,Zh,Ykk hF h k hb hi,Option.bind_some,Qzw]
   ·simp(disch:=omega)only[Z8]
  simp only[e100,Option.bind_some];generalize cAt m b.2.2.2.2.1=ct;cases hasB s.1 b.2.2.1<;>by_cases p1:ct.2.2.2.2.2.2.2.2.2.2=0<;>by_cases p2:m.1<b.1<;>by_cases p3:(b.2.2.2.2.2.2.2.2.2.2.length:Int)=ct.2.2.2.2.2.2.2.2.2.2<;>simp[p1,p2,p3,Qp]
theorem Zrb{F:Nat}(hF:700≤F){m:Mt}(hm:m.2.2.2.2.length≤300){s:Qo}(h:Zn s)(k:ByteArray){b:Qz}(hb:b.2.2.2.2.2.2.2.2.2.2.length≤10):Qof F (m,s,b.1,k,b.2)=some (Qbt m s b):=by
 have hF4:400≤F:=by omega
 have hdC:Q7=dC:=rfl;have hdA:Zx=dA:=rfl;have e47:c47 F (m,b.2.2.2.2.1)=some (cI m b.2.2.2.2.1):=l47 (by omega) (by omega) _;have h1:=h.c;have e54:=l54 hF4 (l:=s.1) (by omega) b.2.2.1;unfold Qof Qbt;simp only[Zh,e47,e54,hdC,hdA,Option.bind_some];cases hasB s.1 b.2.2.1
 ·simp
 ·by_cases hc:cI m b.2.2.2.2.1<0
  ·simp[hc]
  ·obtain⟨j,y,j1,j2,-,-⟩:=Ul (p:=fun y:Cst=>Qc y.1 b.2.2.2.2.1) (l:=m.2.2.2.2) (show 0≤cI m b.2.2.2.2.1 by omega);have j1':cI m b.2.2.2.2.1=(j:Int):=j1;have hC:m.2.2.2.2.getD j dC=cAt m b.2.2.2.2.1:=by unfold cAt;rw[j1'];rfl
   have hnn:¬((j:Nat):Int)<0:=by omega
   simp(disch:=omega)only[j1',hnn,Bool.not_true,Bool.true_eq_false,or_self,decide_false,cond_false,if_false,Option.bind_some,Zc,Int.toNat_natCast,hC];by_cases p1:(cAt m b.2.2.2.2.1).2.2.2.2.2.2.2.2.2.2=0
   ·simp[p1]
   ·by_cases p2:m.1<b.1
    ·simp[p1,p2]
    ·by_cases p3:(b.2.2.2.2.2.2.2.2.2.2.length:Int)=(cAt m b.2.2.2.2.1).2.2.2.2.2.2.2.2.2.2
     ·simp only[p1,p2,p3,decide_true,decide_false,Bool.not_true,cond_false,if_false,if_true];rw[←p3];refine Qub b.2.2.2.2.2.2.2.2.2.2.length (teE m s b) (by omega) (by omega) ?_ ?_ (Qzm _)
      ·intro i hi;have hi':(i:Int)≤b.2.2.2.2.2.2.2.2.2.2.length:=by omega
       have e54b:=fun x=>l54 hF4 (l:=b.2.2.2.2.2.2.2.2.2.2.take i) (by simp;omega) x;unfold teE Yv;simp(disch:=omega)only[Z7,Zc,Int.toNat_natCast,Z0,l40 hF4 h,List.drop_zero,e54b,Option.bind_some];generalize b.2.2.2.2.2.2.2.2.2.2.getD i ByteArray.empty=x;by_cases q1:aI s x<0
       ·simp[q1]
       ·have ha:0≤aI s x:=by omega
        obtain⟨ka,k1,k2⟩:=Qeo ha;have el:=l59 hF hm h ha (show 0≤cI m b.2.2.2.2.1 by omega);simp(disch:=omega)only[el,k1,Zc,Int.toNat_natCast,show¬((ka:Nat):Int)<0 by omega,decide_false,cond_false,if_false,Option.bind_some];generalize elE m s (cAt m b.2.2.2.2.1) x=el;cases Qc (s.2.1.getD ka dA).2.1 b.2.2.1<;>cases hasB (b.2.2.2.2.2.2.2.2.2.2.take i) x<;>by_cases q2:el=0<;>simp[q2]
      ·simp(disch:=omega)only[Z8]
     ·simp[p1,p2,p3]
end Go.Proofs.Tryz
section
namespace Go.Proofs.Tryz
open Go Go.Sx
end Go.Proofs.Tryz
end
section
namespace Go.Proofs.Tryz
open Go Go.Sx
noncomputable section
def Zf0(F:Nat):LK:=lN
def Qjw(F:Nat)(a:List ByteArray):Option (List ByteArray):=
 bif decide (a.length=0)then((gd (decide (List.length (Qa ByteArray++a)*(16:Nat)≤(140737488355328:Nat))) (gd (decide (List.length (Qa ByteArray++a)≤9223372036854775807)) (gd (decide ((0:Nat)+List.length (Qa ByteArray++a)≤List.length (Qa ByteArray++a))) (some (List.take (List.length (Qa ByteArray++a)) (List.drop (0:Nat) (Qa ByteArray++a))))))).bind fun(v4:List ByteArray)=>gd (Qt.eqv (Qf.val (Ty.seq Zz)::Qa Qf) (Qa ByteArray) v4) (some (Qa ByteArray)))else(gd (decide (List.length (Qa ByteArray++a)*(16:Nat)≤(140737488355328:Nat))) (gd (decide (List.length (Qa ByteArray++a)≤9223372036854775807)) (gd (decide ((0:Nat)+List.length (Qa ByteArray++a)≤List.length (Qa ByteArray++a))) (some (List.take (List.length (Qa ByteArray++a)) (List.drop (0:Nat) (Qa ByteArray++a)))))))
def Zst(F:Nat):PC:={ats:=Qaf,rts:=Qaf,code:=Qjw F}
theorem Zkd(F:Nat)(a:List ByteArray):Zs cx (Zf0 F).x 1000 .leaf f150 (Qr f150) Qaf Qaf a=Qjw F a:=by kernel_rfl
theorem Zcp(F:Nat):Qg cx 150 (Zst F):=Qg.Z3 Z4 (Zf0 F).ok (n:=1000) (an:=.leaf) (fn:=f150) (c:=Qr f150) (by kernel_rfl) (by kernel_rfl) (fun a y h=>(Zkd F a).trans h) (by kernel_rfl)
end
end Go.Proofs.Tryz
end
section
namespace Go.Proofs.Tryz
open Go Go.Sx
noncomputable section
end
end Go.Proofs.Tryz
end
namespace Go.Proofs.Tryz
open Go Go.Sx
theorem Yew{F:Nat}{l:List ByteArray}(h:l.length≤1000):Qjw F l=some l:=by
 have e:Qa ByteArray++l=l:=rfl;have h1:l.length*16≤140737488355328:=by omega
 have h2:l.length≤9223372036854775807:=by omega
 unfold Qjw;simp only[e,h1,h2,Nat.zero_add,Nat.le_refl,decide_true,Za,List.drop_zero,List.take_length,Option.bind_some];by_cases h0:l.length=0
 ·obtain rfl:=List.eq_nil_of_length_eq_zero h0;rfl
 ·simp only[h0,decide_false,cond_false]
noncomputable def Zxu(F:Nat):LK:=lN
noncomputable def c81(F:Nat)(a:PUnit):Option (Zo):=
 some (((8000:Int),(7900:Int),(7990:Int),(2:Int),({data:=List.toArray (115::112::114::105::110::116::Qa UInt8)},{data:=List.toArray (116::105::109::101::Qa UInt8)},(ByteArray.mk (List.toArray (Qa UInt8))),(16:Int),(40:Int),(2:Int),(1:Int),{data:=List.toArray (116::105::109::101::Qa UInt8)},(120000:Int),(ByteArray.mk (List.toArray (Qa UInt8))),(0:Int))::({data:=List.toArray (106::117::109::112::Qa UInt8)},{data:=List.toArray (108::101::110::103::116::104::Qa UInt8)},(ByteArray.mk (List.toArray (Qa UInt8))),(16:Int),(40:Int),(8:Int),(2:Int),{data:=List.toArray (110::111::110::101::Qa UInt8)},(0:Int),{data:=List.toArray (78::77::Qa UInt8)},(0:Int))::({data:=List.toArray (114::101::108::97::121::Qa UInt8)},{data:=List.toArray (116::105::109::101::Qa UInt8)},(ByteArray.mk (List.toArray (Qa UInt8))),(16:Int),(40:Int),(8:Int),(1:Int),{data:=List.toArray (110::111::110::101::Qa UInt8)},(0:Int),{data:=List.toArray (78::77::Qa UInt8)},(2:Int))::Qa (Yc)))
noncomputable def Zde(F:Nat):PC:={ats:=[],rts:=[.agg Xh],code:=c81 F}
theorem Ybz(F:Nat):Qg cx 81 (Zde F):=qE (Zxu F) .leaf f81 (by kernel_rfl) fun a=>by kernel_rfl
noncomputable def Zml(F:Nat):LK:=lN
noncomputable def c83(F:Nat)(a:Int):Option (ByteArray×Int×ByteArray):=
 some (({data:=List.toArray (116::105::109::101::Qa UInt8)},w64 ((100:Int)*a),(ByteArray.mk (List.toArray (Qa UInt8)))))
noncomputable def Qwc(F:Nat):PC:={ats:=Zi,rts:=[.agg kt7],code:=c83 F}
theorem Qw9(F:Nat):Qg cx 83 (Qwc F):=qE (Zml F) .leaf f83 (by kernel_rfl) fun a=>by kernel_rfl
end Go.Proofs.Tryz
