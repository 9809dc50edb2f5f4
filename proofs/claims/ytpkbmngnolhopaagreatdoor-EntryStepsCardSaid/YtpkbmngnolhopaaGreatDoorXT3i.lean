/- Plain law: marks compared, in the program and in the reference. Plain law: entries in order, in the program and in the reference. And further parts. -/
import Derived.Test.YtpkbmngnolhopaaGreatDoorXT3f
import Derived.Test.YtpkbmngnolhopaaGreatDoorXTeB2
import Derived.Test.YtpkbmngnolhopaaGreatDoorXTeB3
set_option maxRecDepth 100000
set_option linter.unusedVariables false
set_option linter.unusedSimpArgs false
open Option renaming bind_some->j
open List renaming cons_append->o,nil_append->I,range->J,mem_of_mem_take->R
namespace Go.Proofs.Tryz
open Go Go.Sx
abbrev Mk:=ByteArray×Int×ByteArray
theorem Zmt:(YM:ByteArray)=kL:=rfl
theorem Zzr:(YO:ByteArray)=kP:=rfl
theorem Za8:(YL:ByteArray)=kT:=rfl
theorem Zcu:(YN:ByteArray)=kN:=rfl
def wM(k:ByteArray)(v:Int):Int:=if Qc k kT=true then-v else if Qc k kL=true then v else if Qc k kP=true then v else-864000000
def Vj(a b:Int):Int:=if b<a then-1 else if a<b then 1 else 0
def Jn(x:Mk):Prop:=Jq x.1 x.2.1 x.2.2=0
def kindOk(x:Mk):Prop:=Qc x.1 kN=true∨Qc x.1 kT=true∨Qc x.1 kL=true∨Qc x.1 kP=true
theorem Zrz{x:Mk}(h:Jn x):kindOk x:=by
 unfold Jn Jq at h;unfold kindOk;by_cases h1:Qc x.1 kN=true
 ·exact .inl h1
 ·by_cases h2:Qc x.1 kT=true
  ·exact .inr (.inl h2)
  ·by_cases h3:Qc x.1 kL=true
   ·exact .inr (.inr (.inl h3))
   ·by_cases h4:Qc x.1 kP=true
    ·exact .inr (.inr (.inr h4))
    ·rw[if_neg h1,if_neg h2,if_neg h3,if_neg h4]at h;cases h
theorem Qug{a b k:ByteArray}(h:Qc k a=true)(hab:Qc a b=false):Qc k b=false:=by rw[Xr]at h;rw[h];exact hab
theorem Zae(F:Nat){k:ByteArray}{v:Int}(r:ByteArray)(hv:-999999999<=v∧v<=999999999):Qj5 F (k,v,r)=some (wM k v):=by
 unfold Qj5 tw;have hw:IntKind.wrap IntKind.i64 (0-v)= -v:=by rw[show IntKind.wrap IntKind.i64 (0-v)=w64 (0-v)from rfl,Zv (by omega) (by omega)];omega
 simp only[hw,Za8,Zmt,Zzr];have g:∀x:Int,gd (Qt.eqv (Qe.val (Ty.int Go.IntKind.i64)::Qa Qe) x x) (some x)=some x:=by
  intro x;have:Qt.eqv (Qe.val (Ty.int Go.IntKind.i64)::Qa Qe) x x=true:=by change Qag x x=true;simp[Qag]
  rw[this];rfl
 unfold wM;cases Qc k kT<;>cases Qc k kL<;>cases Qc k kP<;>simp[g]
theorem Qrn{x:Mk}(h:Jn x):0<=x.2.1∧x.2.1<=863999999:=by
 unfold Jn Jq at h;split at h
 ·split at h
  ·cases h
  ·split at h
   ·cases h
   ·rename_i h3;have:x.2.1=0:=by simpa using h3
    omega
 ·split at h
  ·split at h
   ·cases h
   ·split at h
    ·cases h
    ·omega
  ·split at h
   ·split at h
    ·cases h
    ·split at h
     ·cases h
     ·omega
   ·split at h
    ·split at h
     ·cases h
     ·split at h
      ·cases h
      ·omega
    ·cases h
def wE(x:Mk):Int:=wM x.1 x.2.1
def Qgw(x y:Mk):Prop:=Qc x.1 kN=true∨Qc y.1 kN=true∨Qc x.1 y.1=true
theorem Zrd(F:Nat){x y:Mk}(hx:Jn x)(hy:Jn y):Qn1 F (x,y)=some (Vj (wE x) (wE y)):=by
 unfold Qn1 Vj wE;obtain⟨a1,a2⟩:=Qrn hx;obtain⟨b1,b2⟩:=Qrn hy;simp only[Zae F _ (show-999999999<=x.2.1∧x.2.1<=999999999 by omega),Zae F _ (show-999999999<=y.2.1∧y.2.1<=999999999 by omega),j];by_cases h1:wM y.1 y.2.1<wM x.1 x.2.1
 ·rw[Zx h1,if_pos h1]
 ·rw[Zz h1,if_neg h1];by_cases h2:wM x.1 x.2.1<wM y.1 y.2.1
  ·rw[Zx h2,if_pos h2]
  ·rw[Zz h2,if_neg h2]
theorem Ynm(F:Nat){x y:Mk}(h:Qgw x y):Qr4 F (x,y)=some false:=by unfold Qr4;simp only[Zcu];unfold Qgw at h;cases h1:Qc x.1 y.1<;>cases h2:Qc x.1 kN<;>cases h3:Qc y.1 kN<;>simp_all
theorem Yfy{F:Nat}(hF:400<=F){x y:Mk}(hx:Jn x)(hy:Jn y)(h:Qgw x y):Qlb F (x,y)=some (Vj (wE x) (wE y),0):=by
 unfold Qlb;have q:∀(a b c:Int),Vd F (a::b::c::Qa Int)=some (Qk [a,b,c]):=by intro a b c;rw[Qxu (by simp[Qa];omega) (by simp[Qa])];rfl
 have hx':=hx;have hy':=hy;unfold Jn at hx' hy';simp only[Q3,l99 hF,Ynm F h,Zho,q,hx',hy',j,Zrd F hx hy];rfl
theorem kinds{x:Mk}(h:Jn x):(Qc x.1 kN=true∧wE x= -864000000)∨(Qc x.1 kN=false∧Qc x.1 kT=true∧wE x= -x.2.1)∨(Qc x.1 kN=false∧Qc x.1 kT=false∧wE x=x.2.1):=by
 have hk:=Zrz h;unfold kindOk at hk;unfold wE wM;cases hN:Qc x.1 kN with
 |true=>left;refine⟨rfl,?_⟩;rw[if_neg (by rw[Qug hN rfl];simp),if_neg (by rw[Qug hN rfl];simp),if_neg (by rw[Qug hN rfl];simp)]
 |false=>
  right;cases hT:Qc x.1 kT with
  |true=>left;exact⟨rfl,rfl,by rw[if_pos rfl]⟩
  |false=>
   right;refine⟨rfl,rfl,?_⟩;rw[if_neg (by simp)];rcases hk with hk|hk|hk|hk
   ·rw[hk]at hN;cases hN
   ·rw[hk]at hT;cases hT
   ·rw[if_pos hk]
   ·by_cases hL:Qc x.1 kL=true
    ·rw[if_pos hL]
    ·rw[if_neg hL,if_pos hk]
theorem l57(F:Nat){x y:Mk}(hx:Jn x)(hy:Jn y)(h:Qgw x y):c57 F (x,y)=some (Vj (wE x) (wE y)):=by
 unfold c57;obtain⟨a1,a2⟩:=Qrn hx;obtain⟨b1,b2⟩:=Qrn hy;simp only[Zcu,Za8];have ne1:Qc x.1 kN=true->Qc y.1 kN=false->Qc x.1 y.1=false:=fun p q=>by
  cases e:Qc x.1 y.1 with
  |false=>rfl
  |true=>rw[Xr]at e;rw[<-e,p]at q;cases q
 have ne2:Qc x.1 kN=false->Qc y.1 kN=true->Qc x.1 y.1=false:=fun p q=>by
  cases e:Qc x.1 y.1 with
  |false=>rfl
  |true=>rw[Xr]at e;rw[<-e,p]at q;cases q
 have fin:∀a b:Int,(bif decide (b<a)then some (-1:Int)else bif decide (a<b)then some 1 else some 0)=some (Vj a b):=by
  intro a b;unfold Vj;by_cases h1:b<a
  ·rw[if_pos h1,Zx h1]
  ·rw[if_neg h1,Zz h1];by_cases h2:a<b
   ·rw[if_pos h2,Zx h2]
   ·rw[if_neg h2,Zz h2]
 rcases kinds hx with⟨p1,p2⟩|⟨p1,p3,p2⟩|⟨p1,p3,p2⟩
 ·rcases kinds hy with⟨q1,q2⟩|⟨q1,q3,q2⟩|⟨q1,q3,q2⟩
  ·have:Qc x.1 y.1=true:=by rw[Xr]at p1 q1⊢;rw[p1,q1]
   simp[p1,this,Vj,p2,q2]
  ·have h1:¬wE y<wE x:=by omega
   have h2:wE x<wE y:=by omega
   simp[p1,ne1 p1 q1,q1,Vj,h1,h2]
  ·have h1:¬wE y<wE x:=by omega
   have h2:wE x<wE y:=by omega
   simp[p1,ne1 p1 q1,q1,Vj,h1,h2]
 ·rcases kinds hy with⟨q1,q2⟩|⟨q1,q3,q2⟩|⟨q1,q3,q2⟩
  ·have h1:wE y<wE x:=by omega
   simp[p1,ne2 p1 q1,q1,Vj,h1]
  ·simp only[p1,q1,p3,cond_false,cond_true,j];rw[fin,p2,q2];unfold Vj;congr 1
   (repeat' split)<;>omega
  ·exfalso;rcases h with h|h|h
   ·rw[h]at p1;cases p1
   ·rw[h]at q1;cases q1
   ·rw[Xr]at h;rw[<-h,p3]at q3;cases q3
 ·rcases kinds hy with⟨q1,q2⟩|⟨q1,q3,q2⟩|⟨q1,q3,q2⟩
  ·have h1:wE y<wE x:=by omega
   simp[p1,ne2 p1 q1,q1,Vj,h1]
  ·exfalso;rcases h with h|h|h
   ·rw[h]at p1;cases p1
   ·rw[h]at q1;cases q1
   ·rw[Xr]at h;rw[<-h,p3]at q3;cases q3
  ·simp only[p1,q1,p3,cond_false,cond_true,j];rw[fin,p2,q2]
def mkE(x:Zo):Mk:=(x.2.2.1,x.2.2.2.1,x.2.2.2.2.1)
def dyE(x:Zo):Int:=x.2.2.2.2.2.1
structure Zu4 (x y:Zo):Prop where
 mx:Jn (mkE x)
 my:Jn (mkE y)
 k:Qgw (mkE x) (mkE y)
 dx:0<=dyE x∧dyE x<=99999
 dy:0<=dyE y∧dyE y<=99999
theorem tE:Zg=dE:=rfl
def Qxj(l:List Zo):Prop:=∀x∈l,∀y∈l,Zu4 x y
theorem Qxj.take{l:List Zo}(h:Qxj l)(i:Nat):Qxj (l.take i):=fun x hx y hy=>h x (R hx) y (R hy)
end Go.Proofs.Tryz
section
namespace Go.Proofs.Tryz
open Go Go.Sx
end Go.Proofs.Tryz
end
namespace Go.Proofs.Tryz
open Go Go.Sx
def Qsh(l:List ByteArray)(c:ByteArray):Nat:=(l.filter fun x=>Qc x c).length
theorem Yjn(l:List ByteArray)(b c:ByteArray):Qsh (l++[b]) c=Qsh l c+if Qc b c=true then 1 else 0:=by unfold Qsh;rw[List.filter_append,List.length_append];cases h:Qc b c<;>simp[h]
def Qyo(q:List (ByteArray×Int))(l:List ByteArray):Prop:=∀k,X5 Qc k q 0=(Qsh l k:Int)
theorem Qyo.put{q:List (ByteArray×Int)}{l:List ByteArray}(h:Qyo q l)(b:ByteArray):Qyo (Ke Qc b (X5 Qc b q 0+1) q) (l++[b]):=by
 intro k;rw[Zjf Zb5,Yjn];have h1:=h k;have h2:=h b;by_cases e:b=k
 ·subst e;simp[K9,h1]
 ·simp[Qvg e,Qvg (fun h:k=b=>e h.symm),h1]
end Go.Proofs.Tryz
section
namespace Go.Proofs.Tryz
open Go Go.Sx
end Go.Proofs.Tryz
end
namespace Go.Proofs.Tryz
open Go Go.Sx
abbrev Yk:=Qz
abbrev Qx:=Int×Z0
def Yf(s:ByteArray):Int:=if Y3 s=true then 0 else 8
def Yw(n:Int):Int:=if Yj n=true then 3 else 0
def Qdr(l:List ByteArray):Int:=if 8<l.length then 5 else Qk (l.map Yf)
def Qc5(b:Qx):Int:=if b.2.2.2.2.2.2.1<b.2.2.2.2.2.1 then 11 else 0
def Qhe(b:Qx):Int:=Jq b.2.2.2.2.2.2.2.1 b.2.2.2.2.2.2.2.2.1 b.2.2.2.2.2.2.2.2.2.1
def Wb(A C G K Fr T M N:Bool)(b:Qx):Bool:=
 (!A&& !Qc b.2.1 k0)||((!C&& !Qc b.2.2.1 k0)||((!G&& !Qc b.2.2.2.1 k0)||((!K&& !Qc b.2.2.2.2.1 k0)||((!Fr&& !decide (b.2.2.2.2.2.1=0))||((!T&& !decide (b.2.2.2.2.2.2.1=0))||
 ((!M&& !(b.2.2.2.2.2.2.2.1==k0&&(decide (b.2.2.2.2.2.2.2.2.1=0)&&(b.2.2.2.2.2.2.2.2.2.1==k0&&true))))||(!N&&decide ((0:Int)<(b.2.2.2.2.2.2.2.2.2.2.length:Int)))))))))
def Z4(A C G K Fr T M N L:Bool)(b:Qx):Int:=
 Qk [Yw b.1,bif A then Yf b.2.1 else 0,bif C then Yf b.2.2.1 else 0,bif G then Yf b.2.2.2.1 else 0,bif K then Yf b.2.2.2.2.1 else 0,bif Fr then Yw b.2.2.2.2.2.1 else 0,bif T then Yw b.2.2.2.2.2.2.1 else 0,
  bif L then Qc5 b else 0,bif M then Qhe b else 0,bif N then Qdr b.2.2.2.2.2.2.2.2.2.2 else 0,if Wb A C G K Fr T M N b=true then 1 else 0]
theorem Qdm{F:Nat}{s:ByteArray}(hs:s.size<F)(h3:s.size<=300)(c:Int):Xs F (s,c)=some ((J s.size).any fun i=>decide (((s.get! i).toNat:Int)=c)):=by
 unfold Xs;refine Jh (J s.size) (fun(_:Unit) i=>(i:Int)) (fun x (_:Unit)=>if decide (((s.get! x).toNat:Int)=c)=true then .inr (.inl true)else .inl ()) (fun _=>(.inr ():Bool ⊕ Unit)) (fun _ _=>True) () (by simpa using hs) rfl trivial ?_ ?_ ?_
 ·intro i x _ hi hx _;refine⟨?_,fun _ _=>trivial⟩;obtain rfl:=Qhy hx;have hi':x<s.size:=by simpa using hi
  simp(disch:=omega)only[Zx,Zf,Int.toNat_natCast,Zv,Qzp];by_cases h:((s.get! x).toNat:Int)=c
  ·simp[h]
  ·simp[h]
 ·intro _ _;rw[List.length_range];simp(disch:=omega)only[Zz]
 ·rw[Qcn (fun x=>decide (((s.get! x).toNat:Int)=c))];cases(J s.size).any fun x=>decide (((s.get! x).toNat:Int)=c)<;>rfl
theorem Zm2{F:Nat}(hF:400<=F){l:List ByteArray}(hl:l.length<=10):Qsr F l=some (Qdr l):=by
 unfold Qsr Qdr;by_cases h:8<l.length
 ·have h':(8:Int)<l.length:=by omega
  simp only[h,h',decide_true,cond_true,if_true]
 ·have h':¬(8:Int)<l.length:=by omega
  simp only[h,h',decide_false,cond_false,if_false];refine Qgk l Yf (by omega) ?_ ?_ ?_
  ·intro i x hi hx;simp(disch:=omega)only[Zx,Zf,Int.toNat_natCast,getD_some hx,Zv,l67 (show 400<=F by omega),j,Nat.zero_add];unfold Yf;cases Y3 x<;>rfl
  ·simp(disch:=omega)only[Zz]
  ·by_cases h2:Qk (l.map Yf)=0<;>simp[h2]
def X4(b:Qx)(c:Int):Int:=
 if c=97 then Yf b.2.1 else if c=99 then Yf b.2.2.1 else if c=103 then Yf b.2.2.2.1 else if c=102 then Yw b.2.2.2.2.2.1 else if c=116 then Yw b.2.2.2.2.2.2.1 else if c=107 then Yf b.2.2.2.2.1
 else if c=109 then Qhe b else Qdr b.2.2.2.2.2.2.2.2.2.2
theorem Yo1{F:Nat}(hF:400<=F)(b:Qx)(k:ByteArray)(hl:b.2.2.2.2.2.2.2.2.2.2.length<=10)(c:Int):Qn4 F ((b.1,k,b.2),c)=some (X4 b c):=by
 unfold Qn4 X4;simp only[Zkg hF,Zjp,Qt2,Zm2 hF hl,j];by_cases h1:c=97
 ·simp only[h1,decide_true,cond_true,if_true];rfl
 ·by_cases h2:c=99
  ·subst h2;rfl
  ·by_cases h3:c=103
   ·subst h3;rfl
   ·by_cases h4:c=102
    ·subst h4;rfl
    ·by_cases h5:c=116
     ·subst h5;rfl
     ·by_cases h6:c=107
      ·subst h6;rfl
      ·by_cases h7:c=109
       ·subst h7;rfl
       ·simp only[h1,h2,h3,h4,h5,h6,h7,decide_false,cond_false,if_false]
def Yl:ByteArray:=YK
def Qjt:ByteArray:=WA
def Yh:ByteArray:=YG
def Qjn:ByteArray:=YV
def Yt:ByteArray:=YH
def Qht:ByteArray:=YW
def Yc:ByteArray:=YE
def Qh6:ByteArray:=YZ
def Yq:ByteArray:=YF
def Qix:ByteArray:=YX
def Yv:ByteArray:=YC
def Qjp:ByteArray:=YU
def Yr:ByteArray:=YI
def Qis:ByteArray:=YU
def Yp:ByteArray:=YJ
def Qhd:ByteArray:=YY
theorem Xl(x:Int)(l:List Int):Qk (x::l)=if x=0 then Qk l else x:=rfl
theorem Qar:∀(l m:List Int),Qk (l++m)=if Qk l=0 then Qk m else Qk l
 |[],m=>by simp[Qk]
 |x::l,m=>by rw[o,Xl,Xl,Qar l m];by_cases h:x=0<;>simp[h]
theorem Zbg(f i r:Bool):(bif !f then(bif i then some true else some r)else some r)=some ((!f&&i)||r):=by cases f<;>cases i<;>rfl
theorem Yqz(f r:Bool):(bif !f then some r else some false)=some (!f&&r):=by cases f<;>rfl
theorem Qeh{F:Nat}(hF:400<=F)(b:Qx)(hl:b.2.2.2.2.2.2.2.2.2.2.length<=10)(w L:ByteArray)(A C G K Fr T M N lic:Bool)(fl:List Int)
  (e0:Ub F w=some L) (e1:Qc L YD=false) (e2:Qc w YH=lic) (hs:L.size<=300)
  (qa:Xs F (L,97)=some A) (qc:Xs F (L,99)=some C) (qg:Xs F (L,103)=some G) (qk:Xs F (L,107)=some K) (qf:Xs F (L,102)=some Fr) (qt:Xs F (L,116)=some T) (qm:Xs F (L,109)=some M) (qn:Xs F (L,110)=some N)
  (hfl:(J L.size).map (fun i=>X4 b ((L.get! i).toNat:Int))=fl)
  (hg:Yw b.1=0->Z4 A C G K Fr T M N lic b=Qk (fl++[bif lic then Qc5 b else 0,if Wb A C G K Fr T M N b=true then 1 else 0])):c24 F (b.1,w,b.2)=some (Z4 A C G K Fr T M N lic b):=by
 have hk:(YD:ByteArray)=k0:=rfl;have hi:Qsd F (b.1,w,b.2) L=some ((!C&& !Qc b.2.2.1 k0)||((!G&& !Qc b.2.2.2.1 k0)||((!K&& !Qc b.2.2.2.2.1 k0)||((!Fr&& !decide (b.2.2.2.2.2.1=0))||((!T&& !decide (b.2.2.2.2.2.2.1=0))||
   ((!M&& !(b.2.2.2.2.2.2.2.1==k0&&(decide (b.2.2.2.2.2.2.2.2.1=0)&&(b.2.2.2.2.2.2.2.2.2.1==k0&&true))))||(!N&&decide ((0:Int)<(b.2.2.2.2.2.2.2.2.2.2.length:Int))))))))):=by
  unfold Qsd Qx0 Qv3 Qxb Qyk Qux Qxo;simp only[qc,qg,qk,qf,qt,qm,qn,j,Yqz,Zbg,hk]
 unfold c24;simp only[e0,e1,Qt1,j,cond_false];by_cases hd:Xx b.1 99999=true
 ·have:Yw b.1=3:=by unfold Yw;rw[Qw3,if_pos hd]
  simp[hd,Z4,this,Qk]
 ·have hd0:Yw b.1=0:=by unfold Yw;rw[Qw3,if_neg hd]
  have hd':Xx b.1 99999=false:=by simpa using hd
  simp only[hd',cond_false];refine U8 L.size (fun i=>X4 b ((L.get! i).toNat:Int)) (by omega) (by omega) ?_ ?_ ?_
  ·intro i hi;have hb:=Yo1 hF b w hl ((L.get! i).toNat:Int);simp(disch:=omega)only[Zx,Zf,Int.toNat_natCast,Zv,Qzp,Q3,hb,j,Qdh]
  ·simp(disch:=omega)only[Zz]
  ·rw[hfl,hg hd0,Qar];by_cases hz:Qk fl=0
   ·simp only[hz,if_true,Sum.elim_inr,e2,qa,hi,hk,Zbg,j];unfold Wb Qc5;generalize ((!A&& !Qc b.2.1 k0)||_)=iv;cases lic
    ·cases iv<;>rfl
    ·by_cases ho:b.2.2.2.2.2.2.1<b.2.2.2.2.2.1
     ·simp[ho,Xl]
     ·simp only[ho,decide_false,cond_true,cond_false,if_false,j];cases iv<;>rfl
   ·simp only[hz,if_false,Sum.elim_inl]
theorem Yl1(G:Nat):Ub (G+9) Yl=some Qjt:=by kernel_rfl
theorem Yqg{F:Nat}(hF:400<=F)(b:Qx)(hl:b.2.2.2.2.2.2.2.2.2.2.length<=10):c24 F (b.1,Yl,b.2)=some (Z4 false true false false false false false false false b):=by
 have hsz:Qjt.size=1:=rfl;have e3:∀c:Int,Xs F (Qjt,c)=some ((J Qjt.size).any fun i=>decide (((Qjt.get! i).toNat:Int)=c)):=fun c=>Qdm (by omega) (by omega) c;refine Qeh hF b hl Yl Qjt false true false false false false false false false [X4 b 99] ?_ rfl rfl (by omega) ((e3 97).trans rfl) ((e3 99).trans rfl) ((e3 103).trans rfl) ((e3 107).trans rfl) ((e3 102).trans rfl) ((e3 116).trans rfl) ((e3 109).trans rfl) ((e3 110).trans rfl) rfl fun hd=>?_
 ·obtain⟨G,rfl⟩:∃G,F=G+9:=⟨F-9,by omega⟩;exact Yl1 G
 ·unfold Z4;simp only[Xl,hd,cond_true,cond_false,if_true,o,I];rfl
theorem Zuj(G:Nat):Ub (G+9) Yh=some Qjn:=by kernel_rfl
theorem Yop{F:Nat}(hF:400<=F)(b:Qx)(hl:b.2.2.2.2.2.2.2.2.2.2.length<=10):c24 F (b.1,Yh,b.2)=some (Z4 true true true false true false false false false b):=by
 have hsz:Qjn.size=4:=rfl;have e3:∀c:Int,Xs F (Qjn,c)=some ((J Qjn.size).any fun i=>decide (((Qjn.get! i).toNat:Int)=c)):=fun c=>Qdm (by omega) (by omega) c;refine Qeh hF b hl Yh Qjn true true true false true false false false false [X4 b 97,X4 b 99,X4 b 103,X4 b 102] ?_ rfl rfl (by omega) ((e3 97).trans rfl) ((e3 99).trans rfl) ((e3 103).trans rfl) ((e3 107).trans rfl) ((e3 102).trans rfl) ((e3 116).trans rfl) ((e3 109).trans rfl) ((e3 110).trans rfl) rfl fun hd=>?_
 ·obtain⟨G,rfl⟩:∃G,F=G+9:=⟨F-9,by omega⟩;exact Zuj G
 ·unfold Z4;simp only[Xl,hd,cond_true,cond_false,if_true,o,I];rfl
theorem Ylg(G:Nat):Ub (G+9) Yt=some Qht:=by kernel_rfl
theorem Zne{F:Nat}(hF:400<=F)(b:Qx)(hl:b.2.2.2.2.2.2.2.2.2.2.length<=10):c24 F (b.1,Yt,b.2)=some (Z4 true false false false true true false false true b):=by
 have hsz:Qht.size=3:=rfl;have e3:∀c:Int,Xs F (Qht,c)=some ((J Qht.size).any fun i=>decide (((Qht.get! i).toNat:Int)=c)):=fun c=>Qdm (by omega) (by omega) c;refine Qeh hF b hl Yt Qht true false false false true true false false true [X4 b 97,X4 b 102,X4 b 116] ?_ rfl rfl (by omega) ((e3 97).trans rfl) ((e3 99).trans rfl) ((e3 103).trans rfl) ((e3 107).trans rfl) ((e3 102).trans rfl) ((e3 116).trans rfl) ((e3 109).trans rfl) ((e3 110).trans rfl) rfl fun hd=>?_
 ·obtain⟨G,rfl⟩:∃G,F=G+9:=⟨F-9,by omega⟩;exact Ylg G
 ·unfold Z4;simp only[Xl,hd,cond_true,cond_false,if_true,o,I];rfl
theorem Zn7(G:Nat):Ub (G+9) Yc=some Qh6:=by kernel_rfl
theorem Yrf{F:Nat}(hF:400<=F)(b:Qx)(hl:b.2.2.2.2.2.2.2.2.2.2.length<=10):c24 F (b.1,Yc,b.2)=some (Z4 true true false false false false false false false b):=by
 have hsz:Qh6.size=2:=rfl;have e3:∀c:Int,Xs F (Qh6,c)=some ((J Qh6.size).any fun i=>decide (((Qh6.get! i).toNat:Int)=c)):=fun c=>Qdm (by omega) (by omega) c;refine Qeh hF b hl Yc Qh6 true true false false false false false false false [X4 b 97,X4 b 99] ?_ rfl rfl (by omega) ((e3 97).trans rfl) ((e3 99).trans rfl) ((e3 103).trans rfl) ((e3 107).trans rfl) ((e3 102).trans rfl) ((e3 116).trans rfl) ((e3 109).trans rfl) ((e3 110).trans rfl) rfl fun hd=>?_
 ·obtain⟨G,rfl⟩:∃G,F=G+9:=⟨F-9,by omega⟩;exact Zn7 G
 ·unfold Z4;simp only[Xl,hd,cond_true,cond_false,if_true,o,I];rfl
theorem Ztq(G:Nat):Ub (G+9) Yq=some Qix:=by kernel_rfl
theorem Zvs{F:Nat}(hF:400<=F)(b:Qx)(hl:b.2.2.2.2.2.2.2.2.2.2.length<=10):c24 F (b.1,Yq,b.2)=some (Z4 true false false true false false true false false b):=by
 have hsz:Qix.size=3:=rfl;have e3:∀c:Int,Xs F (Qix,c)=some ((J Qix.size).any fun i=>decide (((Qix.get! i).toNat:Int)=c)):=fun c=>Qdm (by omega) (by omega) c;refine Qeh hF b hl Yq Qix true false false true false false true false false [X4 b 97,X4 b 107,X4 b 109] ?_ rfl rfl (by omega) ((e3 97).trans rfl) ((e3 99).trans rfl) ((e3 103).trans rfl) ((e3 107).trans rfl) ((e3 102).trans rfl) ((e3 116).trans rfl) ((e3 109).trans rfl) ((e3 110).trans rfl) rfl fun hd=>?_
 ·obtain⟨G,rfl⟩:∃G,F=G+9:=⟨F-9,by omega⟩;exact Ztq G
 ·unfold Z4;simp only[Xl,hd,cond_true,cond_false,if_true,o,I];rfl
theorem Zo8(G:Nat):Ub (G+9) Yv=some Qjp:=by kernel_rfl
theorem Zv3{F:Nat}(hF:400<=F)(b:Qx)(hl:b.2.2.2.2.2.2.2.2.2.2.length<=10):c24 F (b.1,Yv,b.2)=some (Z4 true false false true false false false false false b):=by
 have hsz:Qjp.size=2:=rfl;have e3:∀c:Int,Xs F (Qjp,c)=some ((J Qjp.size).any fun i=>decide (((Qjp.get! i).toNat:Int)=c)):=fun c=>Qdm (by omega) (by omega) c;refine Qeh hF b hl Yv Qjp true false false true false false false false false [X4 b 97,X4 b 107] ?_ rfl rfl (by omega) ((e3 97).trans rfl) ((e3 99).trans rfl) ((e3 103).trans rfl) ((e3 107).trans rfl) ((e3 102).trans rfl) ((e3 116).trans rfl) ((e3 109).trans rfl) ((e3 110).trans rfl) rfl fun hd=>?_
 ·obtain⟨G,rfl⟩:∃G,F=G+9:=⟨F-9,by omega⟩;exact Zo8 G
 ·unfold Z4;simp only[Xl,hd,cond_true,cond_false,if_true,o,I];rfl
theorem Zm0(G:Nat):Ub (G+9) Yr=some Qis:=by kernel_rfl
theorem Yf9{F:Nat}(hF:400<=F)(b:Qx)(hl:b.2.2.2.2.2.2.2.2.2.2.length<=10):c24 F (b.1,Yr,b.2)=some (Z4 true false false true false false false false false b):=by
 have hsz:Qis.size=2:=rfl;have e3:∀c:Int,Xs F (Qis,c)=some ((J Qis.size).any fun i=>decide (((Qis.get! i).toNat:Int)=c)):=fun c=>Qdm (by omega) (by omega) c;refine Qeh hF b hl Yr Qis true false false true false false false false false [X4 b 97,X4 b 107] ?_ rfl rfl (by omega) ((e3 97).trans rfl) ((e3 99).trans rfl) ((e3 103).trans rfl) ((e3 107).trans rfl) ((e3 102).trans rfl) ((e3 116).trans rfl) ((e3 109).trans rfl) ((e3 110).trans rfl) rfl fun hd=>?_
 ·obtain⟨G,rfl⟩:∃G,F=G+9:=⟨F-9,by omega⟩;exact Zm0 G
 ·unfold Z4;simp only[Xl,hd,cond_true,cond_false,if_true,o,I];rfl
theorem Ykv(G:Nat):Ub (G+9) Yp=some Qhd:=by kernel_rfl
theorem Zwz{F:Nat}(hF:400<=F)(b:Qx)(hl:b.2.2.2.2.2.2.2.2.2.2.length<=10):c24 F (b.1,Yp,b.2)=some (Z4 false true false true false false false true false b):=by
 have hsz:Qhd.size=3:=rfl;have e3:∀c:Int,Xs F (Qhd,c)=some ((J Qhd.size).any fun i=>decide (((Qhd.get! i).toNat:Int)=c)):=fun c=>Qdm (by omega) (by omega) c;refine Qeh hF b hl Yp Qhd false true false true false false false true false [X4 b 99,X4 b 107,X4 b 110] ?_ rfl rfl (by omega) ((e3 97).trans rfl) ((e3 99).trans rfl) ((e3 103).trans rfl) ((e3 107).trans rfl) ((e3 102).trans rfl) ((e3 116).trans rfl) ((e3 109).trans rfl) ((e3 110).trans rfl) rfl fun hd=>?_
 ·obtain⟨G,rfl⟩:∃G,F=G+9:=⟨F-9,by omega⟩;exact Ykv G
 ·unfold Z4;simp only[Xl,hd,cond_true,cond_false,if_true,o,I];rfl
end Go.Proofs.Tryz
section

end
