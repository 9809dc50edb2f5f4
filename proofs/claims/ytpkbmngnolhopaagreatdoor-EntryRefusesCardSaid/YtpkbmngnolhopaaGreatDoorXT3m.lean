/- Plain law: CheckAct of the reference, by kinds. Two texts in one. -/
import Derived.Test.YtpkbmngnolhopaaGreatDoorXT3f
import Derived.Test.YtpkbmngnolhopaaGreatDoorXTeB2
import Derived.Test.YtpkbmngnolhopaaGreatDoorXTeB3
set_option maxRecDepth 100000
set_option linter.unusedVariables false
set_option linter.unusedSimpArgs false
open List renaming cons_append->j,nil_append->o,range->J
open Option renaming bind_some->I
namespace Go.Proofs.Tryz
open Go Go.Sx
abbrev Zw:=Q4
abbrev Q0:=Int×Yn
def Yd(s:ByteArray):Int:=if Y2 s=true then 0 else 8
def Yp(n:Int):Int:=if Yc n=true then 3 else 0
def Qdg(l:List ByteArray):Int:=if 8<l.length then 5 else Qi (l.map Yd)
def Qc2(b:Q0):Int:=if b.2.2.2.2.2.2.1<b.2.2.2.2.2.1 then 11 else 0
def Qgw(b:Q0):Int:=Jo b.2.2.2.2.2.2.2.1 b.2.2.2.2.2.2.2.2.1 b.2.2.2.2.2.2.2.2.2.1
def J6(A C G K Fr T M N:Bool)(b:Q0):Bool:=
 (!A&& !Qc b.2.1 k0)||((!C&& !Qc b.2.2.1 k0)||((!G&& !Qc b.2.2.2.1 k0)||((!K&& !Qc b.2.2.2.2.1 k0)||((!Fr&& !decide (b.2.2.2.2.2.1=0))||((!T&& !decide (b.2.2.2.2.2.2.1=0))||
 ((!M&& !(b.2.2.2.2.2.2.2.1==k0&&(decide (b.2.2.2.2.2.2.2.2.1=0)&&(b.2.2.2.2.2.2.2.2.2.1==k0&&true))))||(!N&&decide ((0:Int)<(b.2.2.2.2.2.2.2.2.2.2.length:Int)))))))))
def Z7(A C G K Fr T M N L:Bool)(b:Q0):Int:=
 Qi [Yp b.1,bif A then Yd b.2.1 else 0,bif C then Yd b.2.2.1 else 0,bif G then Yd b.2.2.2.1 else 0,bif K then Yd b.2.2.2.2.1 else 0,bif Fr then Yp b.2.2.2.2.2.1 else 0,bif T then Yp b.2.2.2.2.2.2.1 else 0,
  bif L then Qc2 b else 0,bif M then Qgw b else 0,bif N then Qdg b.2.2.2.2.2.2.2.2.2.2 else 0,if J6 A C G K Fr T M N b=true then 1 else 0]
theorem Qdi{F:Nat}{s:ByteArray}(hs:s.size<F)(h3:s.size<=300)(c:Int):X0 F (s,c)=some ((J s.size).any fun i=>decide (((s.get! i).toNat:Int)=c)):=by
 unfold X0;refine Jy (J s.size) (fun(_:Unit) i=>(i:Int)) (fun x (_:Unit)=>if decide (((s.get! x).toNat:Int)=c)=true then .inr (.inl true)else .inl ()) (fun _=>(.inr ():Bool ⊕ Unit)) (fun _ _=>True) () (by simpa using hs) rfl trivial ?_ ?_ ?_
 ·intro i x _ hi hx _;refine⟨?_,fun _ _=>trivial⟩;obtain rfl:=Qh3 hx;have hi':x<s.size:=by simpa using hi
  simp(disch:=omega)only[Z1,Ze,Int.toNat_natCast,Zu,Qwn];by_cases h:((s.get! x).toNat:Int)=c
  ·simp[h]
  ·simp[h]
 ·intro _ _;rw[List.length_range];simp(disch:=omega)only[Zz]
 ·rw[Qbq (fun x=>decide (((s.get! x).toNat:Int)=c))];cases(J s.size).any fun x=>decide (((s.get! x).toNat:Int)=c)<;>rfl
theorem Yjr{F:Nat}(hF:400<=F){l:List ByteArray}(hl:l.length<=10):Qrq F l=some (Qdg l):=by
 unfold Qrq Qdg;by_cases h:8<l.length
 ·have h':(8:Int)<l.length:=by omega
  simp only[h,h',decide_true,cond_true,if_true]
 ·have h':¬(8:Int)<l.length:=by omega
  simp only[h,h',decide_false,cond_false,if_false];refine Qex l Yd (by omega) ?_ ?_ ?_
  ·intro i x hi hx;simp(disch:=omega)only[Z1,Ze,Int.toNat_natCast,getD_some hx,Zu,l67 (show 400<=F by omega),I,Nat.zero_add];unfold Yd;cases Y2 x<;>rfl
  ·simp(disch:=omega)only[Zz]
  ·by_cases h2:Qi (l.map Yd)=0<;>simp[h2]
def Ja(b:Q0)(c:Int):Int:=
 if c=97 then Yd b.2.1 else if c=99 then Yd b.2.2.1 else if c=103 then Yd b.2.2.2.1 else if c=102 then Yp b.2.2.2.2.2.1 else if c=116 then Yp b.2.2.2.2.2.2.1 else if c=107 then Yd b.2.2.2.2.1
 else if c=109 then Qgw b else Qdg b.2.2.2.2.2.2.2.2.2.2
theorem Zzn{F:Nat}(hF:400<=F)(b:Q0)(k:ByteArray)(hl:b.2.2.2.2.2.2.2.2.2.2.length<=10)(c:Int):Qnt F ((b.1,k,b.2),c)=some (Ja b c):=by
 unfold Qnt Ja;simp only[Zk0 hF,Ze7,Qyj,Yjr hF hl,I];by_cases h1:c=97
 ·simp only[h1,decide_true,cond_true,if_true];rfl
 ·by_cases h2:c=99
  ·subst h2;rfl
  ·by_cases h3:c=103
   ·subst h3;rfl
   ·by_cases h4:c=102
    ·subst h4;rfl
    ·by_cases h5:c=116
     ·subst h5;rfl
     ·by_cases h6:c=107
      ·subst h6;rfl
      ·by_cases h7:c=109
       ·subst h7;rfl
       ·simp only[h1,h2,h3,h4,h5,h6,h7,decide_false,cond_false,if_false]
def Yz:ByteArray:=YJ
def Qg1:ByteArray:=WB
def Yv:ByteArray:=YF
def Qjc:ByteArray:=YW
def Y9:ByteArray:=YG
def Qgq:ByteArray:=YX
def Yo:ByteArray:=YD
def Qg7:ByteArray:=WA
def Xa:ByteArray:=YE
def Qg2:ByteArray:=YY
def Xf:ByteArray:=YB
def Qh7:ByteArray:=YV
def Xb:ByteArray:=YH
def Qil:ByteArray:=YV
def Y8:ByteArray:=YI
def Qhi:ByteArray:=YZ
theorem Xr(x:Int)(l:List Int):Qi (x::l)=if x=0 then Qi l else x:=rfl
theorem Qay:∀(l m:List Int),Qi (l++m)=if Qi l=0 then Qi m else Qi l
 |[],m=>by simp[Qi]
 |x::l,m=>by rw[j,Xr,Xr,Qay l m];by_cases h:x=0<;>simp[h]
theorem Zlt(f i r:Bool):(bif !f then(bif i then some true else some r)else some r)=some ((!f&&i)||r):=by cases f<;>cases i<;>rfl
theorem Zyw(f r:Bool):(bif !f then some r else some false)=some (!f&&r):=by cases f<;>rfl
theorem Qd9{F:Nat}(hF:400<=F)(b:Q0)(hl:b.2.2.2.2.2.2.2.2.2.2.length<=10)(w L:ByteArray)(A C G K Fr T M N lic:Bool)(fl:List Int)
  (e0:Ks F w=some L) (e1:Qc L YC=false) (e2:Qc w YG=lic) (hs:L.size<=300)
  (qa:X0 F (L,97)=some A) (qc:X0 F (L,99)=some C) (qg:X0 F (L,103)=some G) (qk:X0 F (L,107)=some K) (qf:X0 F (L,102)=some Fr) (qt:X0 F (L,116)=some T) (qm:X0 F (L,109)=some M) (qn:X0 F (L,110)=some N)
  (hfl:(J L.size).map (fun i=>Ja b ((L.get! i).toNat:Int))=fl)
  (hg:Yp b.1=0->Z7 A C G K Fr T M N lic b=Qi (fl++[bif lic then Qc2 b else 0,if J6 A C G K Fr T M N b=true then 1 else 0])):c24 F (b.1,w,b.2)=some (Z7 A C G K Fr T M N lic b):=by
 have hk:(YC:ByteArray)=k0:=rfl;have hi:Qpb F (b.1,w,b.2) L=some ((!C&& !Qc b.2.2.1 k0)||((!G&& !Qc b.2.2.2.1 k0)||((!K&& !Qc b.2.2.2.2.1 k0)||((!Fr&& !decide (b.2.2.2.2.2.1=0))||((!T&& !decide (b.2.2.2.2.2.2.1=0))||
   ((!M&& !(b.2.2.2.2.2.2.2.1==k0&&(decide (b.2.2.2.2.2.2.2.2.1=0)&&(b.2.2.2.2.2.2.2.2.2.1==k0&&true))))||(!N&&decide ((0:Int)<(b.2.2.2.2.2.2.2.2.2.2.length:Int))))))))):=by
  unfold Qpb Qv7 Qu6 Qy8 Qvv Qun Qwr;simp only[qc,qg,qk,qf,qt,qm,qn,I,Zyw,Zlt,hk]
 unfold c24;simp only[e0,e1,Qvb,I,cond_false];by_cases hd:X4 b.1 99999=true
 ·have:Yp b.1=3:=by unfold Yp;rw[Qy7,if_pos hd]
  simp[hd,Z7,this,Qi]
 ·have hd0:Yp b.1=0:=by unfold Yp;rw[Qy7,if_neg hd]
  have hd':X4 b.1 99999=false:=by simpa using hd
  simp only[hd',cond_false];refine Qab L.size (fun i=>Ja b ((L.get! i).toNat:Int)) (by omega) (by omega) ?_ ?_ ?_
  ·intro i hi;have hb:=Zzn hF b w hl ((L.get! i).toNat:Int);simp(disch:=omega)only[Z1,Ze,Int.toNat_natCast,Zu,Qwn,Za,hb,I,Qdb]
  ·simp(disch:=omega)only[Zz]
  ·rw[hfl,hg hd0,Qay];by_cases hz:Qi fl=0
   ·simp only[hz,if_true,Sum.elim_inr,e2,qa,hi,hk,Zlt,I];unfold J6 Qc2;generalize ((!A&& !Qc b.2.1 k0)||_)=iv;cases lic
    ·cases iv<;>rfl
    ·by_cases ho:b.2.2.2.2.2.2.1<b.2.2.2.2.2.1
     ·simp[ho,Xr]
     ·simp only[ho,decide_false,cond_true,cond_false,if_false,I];cases iv<;>rfl
   ·simp only[hz,if_false,Sum.elim_inl]
theorem Zxf(G:Nat):Ks (G+9) Yz=some Qg1:=by kernel_rfl
theorem Zyz{F:Nat}(hF:400<=F)(b:Q0)(hl:b.2.2.2.2.2.2.2.2.2.2.length<=10):c24 F (b.1,Yz,b.2)=some (Z7 false true false false false false false false false b):=by
 have hsz:Qg1.size=1:=rfl;have e3:∀c:Int,X0 F (Qg1,c)=some ((J Qg1.size).any fun i=>decide (((Qg1.get! i).toNat:Int)=c)):=fun c=>Qdi (by omega) (by omega) c;refine Qd9 hF b hl Yz Qg1 false true false false false false false false false [Ja b 99] ?_ rfl rfl (by omega) ((e3 97).trans rfl) ((e3 99).trans rfl) ((e3 103).trans rfl) ((e3 107).trans rfl) ((e3 102).trans rfl) ((e3 116).trans rfl) ((e3 109).trans rfl) ((e3 110).trans rfl) rfl fun hd=>?_
 ·obtain⟨G,rfl⟩:∃G,F=G+9:=⟨F-9,by omega⟩;exact Zxf G
 ·unfold Z7;simp only[Xr,hd,cond_true,cond_false,if_true,j,o];rfl
theorem Zp7(G:Nat):Ks (G+9) Yv=some Qjc:=by kernel_rfl
theorem Zn1{F:Nat}(hF:400<=F)(b:Q0)(hl:b.2.2.2.2.2.2.2.2.2.2.length<=10):c24 F (b.1,Yv,b.2)=some (Z7 true true true false true false false false false b):=by
 have hsz:Qjc.size=4:=rfl;have e3:∀c:Int,X0 F (Qjc,c)=some ((J Qjc.size).any fun i=>decide (((Qjc.get! i).toNat:Int)=c)):=fun c=>Qdi (by omega) (by omega) c;refine Qd9 hF b hl Yv Qjc true true true false true false false false false [Ja b 97,Ja b 99,Ja b 103,Ja b 102] ?_ rfl rfl (by omega) ((e3 97).trans rfl) ((e3 99).trans rfl) ((e3 103).trans rfl) ((e3 107).trans rfl) ((e3 102).trans rfl) ((e3 116).trans rfl) ((e3 109).trans rfl) ((e3 110).trans rfl) rfl fun hd=>?_
 ·obtain⟨G,rfl⟩:∃G,F=G+9:=⟨F-9,by omega⟩;exact Zp7 G
 ·unfold Z7;simp only[Xr,hd,cond_true,cond_false,if_true,j,o];rfl
theorem Ysj(G:Nat):Ks (G+9) Y9=some Qgq:=by kernel_rfl
theorem Ynx{F:Nat}(hF:400<=F)(b:Q0)(hl:b.2.2.2.2.2.2.2.2.2.2.length<=10):c24 F (b.1,Y9,b.2)=some (Z7 true false false false true true false false true b):=by
 have hsz:Qgq.size=3:=rfl;have e3:∀c:Int,X0 F (Qgq,c)=some ((J Qgq.size).any fun i=>decide (((Qgq.get! i).toNat:Int)=c)):=fun c=>Qdi (by omega) (by omega) c;refine Qd9 hF b hl Y9 Qgq true false false false true true false false true [Ja b 97,Ja b 102,Ja b 116] ?_ rfl rfl (by omega) ((e3 97).trans rfl) ((e3 99).trans rfl) ((e3 103).trans rfl) ((e3 107).trans rfl) ((e3 102).trans rfl) ((e3 116).trans rfl) ((e3 109).trans rfl) ((e3 110).trans rfl) rfl fun hd=>?_
 ·obtain⟨G,rfl⟩:∃G,F=G+9:=⟨F-9,by omega⟩;exact Ysj G
 ·unfold Z7;simp only[Xr,hd,cond_true,cond_false,if_true,j,o];rfl
theorem Yha(G:Nat):Ks (G+9) Yo=some Qg7:=by kernel_rfl
theorem Zz1{F:Nat}(hF:400<=F)(b:Q0)(hl:b.2.2.2.2.2.2.2.2.2.2.length<=10):c24 F (b.1,Yo,b.2)=some (Z7 true true false false false false false false false b):=by
 have hsz:Qg7.size=2:=rfl;have e3:∀c:Int,X0 F (Qg7,c)=some ((J Qg7.size).any fun i=>decide (((Qg7.get! i).toNat:Int)=c)):=fun c=>Qdi (by omega) (by omega) c;refine Qd9 hF b hl Yo Qg7 true true false false false false false false false [Ja b 97,Ja b 99] ?_ rfl rfl (by omega) ((e3 97).trans rfl) ((e3 99).trans rfl) ((e3 103).trans rfl) ((e3 107).trans rfl) ((e3 102).trans rfl) ((e3 116).trans rfl) ((e3 109).trans rfl) ((e3 110).trans rfl) rfl fun hd=>?_
 ·obtain⟨G,rfl⟩:∃G,F=G+9:=⟨F-9,by omega⟩;exact Yha G
 ·unfold Z7;simp only[Xr,hd,cond_true,cond_false,if_true,j,o];rfl
theorem Yrk(G:Nat):Ks (G+9) Xa=some Qg2:=by kernel_rfl
theorem Ykt{F:Nat}(hF:400<=F)(b:Q0)(hl:b.2.2.2.2.2.2.2.2.2.2.length<=10):c24 F (b.1,Xa,b.2)=some (Z7 true false false true false false true false false b):=by
 have hsz:Qg2.size=3:=rfl;have e3:∀c:Int,X0 F (Qg2,c)=some ((J Qg2.size).any fun i=>decide (((Qg2.get! i).toNat:Int)=c)):=fun c=>Qdi (by omega) (by omega) c;refine Qd9 hF b hl Xa Qg2 true false false true false false true false false [Ja b 97,Ja b 107,Ja b 109] ?_ rfl rfl (by omega) ((e3 97).trans rfl) ((e3 99).trans rfl) ((e3 103).trans rfl) ((e3 107).trans rfl) ((e3 102).trans rfl) ((e3 116).trans rfl) ((e3 109).trans rfl) ((e3 110).trans rfl) rfl fun hd=>?_
 ·obtain⟨G,rfl⟩:∃G,F=G+9:=⟨F-9,by omega⟩;exact Yrk G
 ·unfold Z7;simp only[Xr,hd,cond_true,cond_false,if_true,j,o];rfl
theorem Yhw(G:Nat):Ks (G+9) Xf=some Qh7:=by kernel_rfl
theorem Zw4{F:Nat}(hF:400<=F)(b:Q0)(hl:b.2.2.2.2.2.2.2.2.2.2.length<=10):c24 F (b.1,Xf,b.2)=some (Z7 true false false true false false false false false b):=by
 have hsz:Qh7.size=2:=rfl;have e3:∀c:Int,X0 F (Qh7,c)=some ((J Qh7.size).any fun i=>decide (((Qh7.get! i).toNat:Int)=c)):=fun c=>Qdi (by omega) (by omega) c;refine Qd9 hF b hl Xf Qh7 true false false true false false false false false [Ja b 97,Ja b 107] ?_ rfl rfl (by omega) ((e3 97).trans rfl) ((e3 99).trans rfl) ((e3 103).trans rfl) ((e3 107).trans rfl) ((e3 102).trans rfl) ((e3 116).trans rfl) ((e3 109).trans rfl) ((e3 110).trans rfl) rfl fun hd=>?_
 ·obtain⟨G,rfl⟩:∃G,F=G+9:=⟨F-9,by omega⟩;exact Yhw G
 ·unfold Z7;simp only[Xr,hd,cond_true,cond_false,if_true,j,o];rfl
theorem Zqo(G:Nat):Ks (G+9) Xb=some Qil:=by kernel_rfl
theorem Yl6{F:Nat}(hF:400<=F)(b:Q0)(hl:b.2.2.2.2.2.2.2.2.2.2.length<=10):c24 F (b.1,Xb,b.2)=some (Z7 true false false true false false false false false b):=by
 have hsz:Qil.size=2:=rfl;have e3:∀c:Int,X0 F (Qil,c)=some ((J Qil.size).any fun i=>decide (((Qil.get! i).toNat:Int)=c)):=fun c=>Qdi (by omega) (by omega) c;refine Qd9 hF b hl Xb Qil true false false true false false false false false [Ja b 97,Ja b 107] ?_ rfl rfl (by omega) ((e3 97).trans rfl) ((e3 99).trans rfl) ((e3 103).trans rfl) ((e3 107).trans rfl) ((e3 102).trans rfl) ((e3 116).trans rfl) ((e3 109).trans rfl) ((e3 110).trans rfl) rfl fun hd=>?_
 ·obtain⟨G,rfl⟩:∃G,F=G+9:=⟨F-9,by omega⟩;exact Zqo G
 ·unfold Z7;simp only[Xr,hd,cond_true,cond_false,if_true,j,o];rfl
theorem Yf1(G:Nat):Ks (G+9) Y8=some Qhi:=by kernel_rfl
theorem Ych{F:Nat}(hF:400<=F)(b:Q0)(hl:b.2.2.2.2.2.2.2.2.2.2.length<=10):c24 F (b.1,Y8,b.2)=some (Z7 false true false true false false false true false b):=by
 have hsz:Qhi.size=3:=rfl;have e3:∀c:Int,X0 F (Qhi,c)=some ((J Qhi.size).any fun i=>decide (((Qhi.get! i).toNat:Int)=c)):=fun c=>Qdi (by omega) (by omega) c;refine Qd9 hF b hl Y8 Qhi false true false true false false false true false [Ja b 99,Ja b 107,Ja b 110] ?_ rfl rfl (by omega) ((e3 97).trans rfl) ((e3 99).trans rfl) ((e3 103).trans rfl) ((e3 107).trans rfl) ((e3 102).trans rfl) ((e3 116).trans rfl) ((e3 109).trans rfl) ((e3 110).trans rfl) rfl fun hd=>?_
 ·obtain⟨G,rfl⟩:∃G,F=G+9:=⟨F-9,by omega⟩;exact Yf1 G
 ·unfold Z7;simp only[Xr,hd,cond_true,cond_false,if_true,j,o];rfl
end Go.Proofs.Tryz
section

end
