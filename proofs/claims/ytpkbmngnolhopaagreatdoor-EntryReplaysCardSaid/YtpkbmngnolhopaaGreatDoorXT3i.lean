/- Plain law: marks compared, in the program and in the reference. Plain law: entries in order, in the program and in the reference. And further parts. -/
import Derived.Test.YtpkbmngnolhopaaGreatDoorXT3f
import Derived.Test.YtpkbmngnolhopaaGreatDoorXTeB2
import Derived.Test.YtpkbmngnolhopaaGreatDoorXTeB3
set_option maxRecDepth 100000
set_option linter.unusedVariables false
set_option linter.unusedSimpArgs false
namespace Go.Proofs.Tryz
open Go Go.Sx
abbrev Mk:=ByteArray×Int×ByteArray
theorem Ykm:({data:=List.toArray ((108:UInt8)::(101:UInt8)::(110:UInt8)::(103:UInt8)::(116:UInt8)::(104:UInt8)::Qa UInt8)}:ByteArray)=kL:=rfl
theorem Yja:({data:=List.toArray ((112:UInt8)::(111:UInt8)::(105:UInt8)::(110:UInt8)::(116:UInt8)::(115:UInt8)::Qa UInt8)}:ByteArray)=kP:=rfl
theorem Qy6:({data:=List.toArray ((116:UInt8)::(105:UInt8)::(109:UInt8)::(101:UInt8)::Qa UInt8)}:ByteArray)=kT:=rfl
theorem Qyp:({data:=List.toArray ((110:UInt8)::(111:UInt8)::(110:UInt8)::(101:UInt8)::Qa UInt8)}:ByteArray)=kN:=rfl
def wM(k:ByteArray)(v:Int):Int:=if Qc k kT=true then-v else if Qc k kL=true then v else if Qc k kP=true then v else-864000000
def Wj(a b:Int):Int:=if b<a then-1 else if a<b then 1 else 0
def X5(x:Mk):Prop:=Wd x.1 x.2.1 x.2.2=0
def kindOk(x:Mk):Prop:=Qc x.1 kN=true∨Qc x.1 kT=true∨Qc x.1 kL=true∨Qc x.1 kP=true
theorem Zpx{x:Mk}(h:X5 x):kindOk x:=by
 unfold X5 Wd at h;unfold kindOk;by_cases h1:Qc x.1 kN=true
 ·exact .inl h1
 ·by_cases h2:Qc x.1 kT=true
  ·exact .inr (.inl h2)
  ·by_cases h3:Qc x.1 kL=true
   ·exact .inr (.inr (.inl h3))
   ·by_cases h4:Qc x.1 kP=true
    ·exact .inr (.inr (.inr h4))
    ·rw[if_neg h1,if_neg h2,if_neg h3,if_neg h4]at h;cases h
theorem Qty{a b k:ByteArray}(h:Qc k a=true)(hab:Qc a b=false):Qc k b=false:=by rw[Xj]at h;rw[h];exact hab
theorem Qze(F:Nat){k:ByteArray}{v:Int}(r:ByteArray)(hv:-999999999≤v∧v≤999999999):Qkt F (k,v,r)=some (wM k v):=by
 unfold Qkt tw;have hw:IntKind.wrap IntKind.i64 (0-v)= -v:=by rw[show IntKind.wrap IntKind.i64 (0-v)=w64 (0-v)from rfl,Z0 (by omega) (by omega)];omega
 simp only[hw,Qy6,Ykm,Yja];have g:∀x:Int,gd (Qt.eqv (Qf.val (Ty.int Go.IntKind.i64)::Qa Qf) x x) (some x)=some x:=by
  intro x;have:Qt.eqv (Qf.val (Ty.int Go.IntKind.i64)::Qa Qf) x x=true:=by change Kj x x=true;simp[Kj]
  rw[this];rfl
 unfold wM;cases Qc k kT<;>cases Qc k kL<;>cases Qc k kP<;>simp[g]
theorem Qoe{x:Mk}(h:X5 x):0≤x.2.1∧x.2.1≤863999999:=by
 unfold X5 Wd at h;split at h
 ·split at h
  ·cases h
  ·split at h
   ·cases h
   ·rename_i h3;have:x.2.1=0:=by simpa using h3
    omega
 ·split at h
  ·split at h
   ·cases h
   ·split at h
    ·cases h
    ·omega
  ·split at h
   ·split at h
    ·cases h
    ·split at h
     ·cases h
     ·omega
   ·split at h
    ·split at h
     ·cases h
     ·split at h
      ·cases h
      ·omega
    ·cases h
def wE(x:Mk):Int:=wM x.1 x.2.1
def Qdq(x y:Mk):Prop:=Qc x.1 kN=true∨Qc y.1 kN=true∨Qc x.1 y.1=true
theorem Zur(F:Nat){x y:Mk}(hx:X5 x)(hy:X5 y):Qm3 F (x,y)=some (Wj (wE x) (wE y)):=by
 unfold Qm3 Wj wE;obtain⟨a1,a2⟩:=Qoe hx;obtain⟨b1,b2⟩:=Qoe hy;simp only[Qze F _ (show-999999999≤x.2.1∧x.2.1≤999999999 by omega),Qze F _ (show-999999999≤y.2.1∧y.2.1≤999999999 by omega),Option.bind_some];by_cases h1:wM y.1 y.2.1<wM x.1 x.2.1
 ·rw[Z7 h1,if_pos h1]
 ·rw[Z8 h1,if_neg h1];by_cases h2:wM x.1 x.2.1<wM y.1 y.2.1
  ·rw[Z7 h2,if_pos h2]
  ·rw[Z8 h2,if_neg h2]
theorem Yac(F:Nat){x y:Mk}(h:Qdq x y):Qny F (x,y)=some false:=by unfold Qny;simp only[Qyp];unfold Qdq at h;cases h1:Qc x.1 y.1<;>cases h2:Qc x.1 kN<;>cases h3:Qc y.1 kN<;>simp_all
theorem Zmv{F:Nat}(hF:400≤F){x y:Mk}(hx:X5 x)(hy:X5 y)(h:Qdq x y):Qjp F (x,y)=some (Wj (wE x) (wE y),0):=by
 unfold Qjp;have q:∀(a b c:Int),Wg F (a::b::c::Qa Int)=some (Qp [a,b,c]):=by intro a b c;rw[Qu6 (by simp[Qa];omega) (by simp[Qa])];rfl
 have hx':=hx;have hy':=hy;unfold X5 at hx' hy';simp only[Zh,l99 hF,Yac F h,Zgc,q,hx',hy',Option.bind_some,Zur F hx hy];rfl
theorem kinds{x:Mk}(h:X5 x):(Qc x.1 kN=true∧wE x= -864000000)∨(Qc x.1 kN=false∧Qc x.1 kT=true∧wE x= -x.2.1)∨(Qc x.1 kN=false∧Qc x.1 kT=false∧wE x=x.2.1):=by
 have hk:=Zpx h;unfold kindOk at hk;unfold wE wM;cases hN:Qc x.1 kN with
 |true=>left;refine⟨rfl,?_⟩;rw[if_neg (by rw[Qty hN rfl];simp),if_neg (by rw[Qty hN rfl];simp),if_neg (by rw[Qty hN rfl];simp)]
 |false=>
  right;cases hT:Qc x.1 kT with
  |true=>left;exact⟨rfl,rfl,by rw[if_pos rfl]⟩
  |false=>
   right;refine⟨rfl,rfl,?_⟩;rw[if_neg (by simp)];rcases hk with hk|hk|hk|hk
   ·rw[hk]at hN;cases hN
   ·rw[hk]at hT;cases hT
   ·rw[if_pos hk]
   ·by_cases hL:Qc x.1 kL=true
    ·rw[if_pos hL]
    ·rw[if_neg hL,if_pos hk]
theorem l57(F:Nat){x y:Mk}(hx:X5 x)(hy:X5 y)(h:Qdq x y):c57 F (x,y)=some (Wj (wE x) (wE y)):=by
 unfold c57;obtain⟨a1,a2⟩:=Qoe hx;obtain⟨b1,b2⟩:=Qoe hy;simp only[Qyp,Qy6];have ne1:Qc x.1 kN=true→Qc y.1 kN=false→Qc x.1 y.1=false:=fun p q=>by
  cases e:Qc x.1 y.1 with
  |false=>rfl
  |true=>rw[Xj]at e;rw[←e,p]at q;cases q
 have ne2:Qc x.1 kN=false→Qc y.1 kN=true→Qc x.1 y.1=false:=fun p q=>by
  cases e:Qc x.1 y.1 with
  |false=>rfl
  |true=>rw[Xj]at e;rw[←e,p]at q;cases q
 have fin:∀a b:Int,(bif decide (b<a)then some (-1:Int)else bif decide (a<b)then some 1 else some 0)=some (Wj a b):=by
  intro a b;unfold Wj;by_cases h1:b<a
  ·rw[if_pos h1,Z7 h1]
  ·rw[if_neg h1,Z8 h1];by_cases h2:a<b
   ·rw[if_pos h2,Z7 h2]
   ·rw[if_neg h2,Z8 h2]
 rcases kinds hx with⟨p1,p2⟩|⟨p1,p3,p2⟩|⟨p1,p3,p2⟩
 ·rcases kinds hy with⟨q1,q2⟩|⟨q1,q3,q2⟩|⟨q1,q3,q2⟩
  ·have:Qc x.1 y.1=true:=by rw[Xj]at p1 q1⊢;rw[p1,q1]
   simp[p1,this,Wj,p2,q2]
  ·have h1:¬wE y<wE x:=by omega
   have h2:wE x<wE y:=by omega
   simp[p1,ne1 p1 q1,q1,Wj,h1,h2]
  ·have h1:¬wE y<wE x:=by omega
   have h2:wE x<wE y:=by omega
   simp[p1,ne1 p1 q1,q1,Wj,h1,h2]
 ·rcases kinds hy with⟨q1,q2⟩|⟨q1,q3,q2⟩|⟨q1,q3,q2⟩
  ·have h1:wE y<wE x:=by omega
   simp[p1,ne2 p1 q1,q1,Wj,h1]
  ·simp only[p1,q1,p3,cond_false,cond_true,Option.bind_some];rw[fin,p2,q2];unfold Wj;congr 1
   (repeat' split)<;>omega
  ·exfalso;rcases h with h|h|h
   ·rw[h]at p1;cases p1
   ·rw[h]at q1;cases q1
   ·rw[Xj]at h;rw[←h,p3]at q3;cases q3
 ·rcases kinds hy with⟨q1,q2⟩|⟨q1,q3,q2⟩|⟨q1,q3,q2⟩
  ·have h1:wE y<wE x:=by omega
   simp[p1,ne2 p1 q1,q1,Wj,h1]
  ·exfalso;rcases h with h|h|h
   ·rw[h]at p1;cases p1
   ·rw[h]at q1;cases q1
   ·rw[Xj]at h;rw[←h,p3]at q3;cases q3
  ·simp only[p1,q1,p3,cond_false,cond_true,Option.bind_some];rw[fin,p2,q2]
def mkE(x:Zr):Mk:=(x.2.2.1,x.2.2.2.1,x.2.2.2.2.1)
def dyE(x:Zr):Int:=x.2.2.2.2.2.1
structure Yfl (x y:Zr):Prop where
 mx:X5 (mkE x)
 my:X5 (mkE y)
 k:Qdq (mkE x) (mkE y)
 dx:0≤dyE x∧dyE x≤99999
 dy:0≤dyE y∧dyE y≤99999
theorem tE:Zd=dE:=rfl
def Quj(l:List Zr):Prop:=∀x∈l,∀y∈l,Yfl x y
theorem Quj.take{l:List Zr}(h:Quj l)(i:Nat):Quj (l.take i):=fun x hx y hy=>h x (List.mem_of_mem_take hx) y (List.mem_of_mem_take hy)
end Go.Proofs.Tryz
section
namespace Go.Proofs.Tryz
open Go Go.Sx
end Go.Proofs.Tryz
end
namespace Go.Proofs.Tryz
open Go Go.Sx
def Qlt(l:List ByteArray)(c:ByteArray):Nat:=(l.filter fun x=>Qc x c).length
theorem Ygs(l:List ByteArray)(b c:ByteArray):Qlt (l++[b]) c=Qlt l c+if Qc b c=true then 1 else 0:=by unfold Qlt;rw[List.filter_append,List.length_append];cases h:Qc b c<;>simp[h]
def Qtc(q:List (ByteArray×Int))(l:List ByteArray):Prop:=∀k,Xv Qc k q 0=(Qlt l k:Int)
theorem Qtc.put{q:List (ByteArray×Int)}{l:List ByteArray}(h:Qtc q l)(b:ByteArray):Qtc (Vb Qc b (Xv Qc b q 0+1) q) (l++[b]):=by
 intro k;rw[Qx6 Zf5,Ygs];have h1:=h k;have h2:=h b;by_cases e:b=k
 ·subst e;simp[Qf5,h1]
 ·simp[Quf e,Quf (fun h:k=b=>e h.symm),h1]
end Go.Proofs.Tryz
section
namespace Go.Proofs.Tryz
open Go Go.Sx
end Go.Proofs.Tryz
end
namespace Go.Proofs.Tryz
open Go Go.Sx
abbrev Ys:=Q6
abbrev Qz:=Int×Yd
def Z6(s:ByteArray):Int:=if X4 s=true then 0 else 8
def Yn(n:Int):Int:=if Yz n=true then 3 else 0
def Qb1(l:List ByteArray):Int:=if 8<l.length then 5 else Qp (l.map Z6)
def Qem(b:Qz):Int:=if b.2.2.2.2.2.2.1<b.2.2.2.2.2.1 then 11 else 0
def Qgx(b:Qz):Int:=Wd b.2.2.2.2.2.2.2.1 b.2.2.2.2.2.2.2.2.1 b.2.2.2.2.2.2.2.2.2.1
def Ji(A C G K Fr T M N:Bool)(b:Qz):Bool:=
 (!A&& !Qc b.2.1 k0)||((!C&& !Qc b.2.2.1 k0)||((!G&& !Qc b.2.2.2.1 k0)||((!K&& !Qc b.2.2.2.2.1 k0)||((!Fr&& !decide (b.2.2.2.2.2.1=0))||((!T&& !decide (b.2.2.2.2.2.2.1=0))||
 ((!M&& !(b.2.2.2.2.2.2.2.1==k0&&(decide (b.2.2.2.2.2.2.2.2.1=0)&&(b.2.2.2.2.2.2.2.2.2.1==k0&&true))))||(!N&&decide ((0:Int)<(b.2.2.2.2.2.2.2.2.2.2.length:Int)))))))))
def Z2(A C G K Fr T M N L:Bool)(b:Qz):Int:=
 Qp [Yn b.1,bif A then Z6 b.2.1 else 0,bif C then Z6 b.2.2.1 else 0,bif G then Z6 b.2.2.2.1 else 0,bif K then Z6 b.2.2.2.2.1 else 0,bif Fr then Yn b.2.2.2.2.2.1 else 0,bif T then Yn b.2.2.2.2.2.2.1 else 0,
  bif L then Qem b else 0,bif M then Qgx b else 0,bif N then Qb1 b.2.2.2.2.2.2.2.2.2.2 else 0,if Ji A C G K Fr T M N b=true then 1 else 0]
theorem Qbh{F:Nat}{s:ByteArray}(hs:s.size<F)(h3:s.size≤300)(c:Int):Xe F (s,c)=some ((List.range s.size).any fun i=>decide (((s.get! i).toNat:Int)=c)):=by
 unfold Xe;refine Xr (List.range s.size) (fun(_:Unit) i=>(i:Int)) (fun x (_:Unit)=>if decide (((s.get! x).toNat:Int)=c)=true then .inr (.inl true)else .inl ()) (fun _=>(.inr ():Bool ⊕ Unit)) (fun _ _=>True) () (by simpa using hs) rfl trivial ?_ ?_ ?_
 ·intro i x _ hi hx _;refine⟨?_,fun _ _=>trivial⟩;obtain rfl:=Qga hx;have hi':x<s.size:=by simpa using hi
  simp(disch:=omega)only[Z7,Zc,Int.toNat_natCast,Z0,Qtl];by_cases h:((s.get! x).toNat:Int)=c
  ·simp[h]
  ·simp[h]
 ·intro _ _;rw[List.length_range];simp(disch:=omega)only[Z8]
 ·rw[Qag (fun x=>decide (((s.get! x).toNat:Int)=c))];cases(List.range s.size).any fun x=>decide (((s.get! x).toNat:Int)=c)<;>rfl
theorem Yfw{F:Nat}(hF:400≤F){l:List ByteArray}(hl:l.length≤10):Qod F l=some (Qb1 l):=by
 unfold Qod Qb1;by_cases h:8<l.length
 ·have h':(8:Int)<l.length:=by omega
  simp only[h,h',decide_true,cond_true,if_true]
 ·have h':¬(8:Int)<l.length:=by omega
  simp only[h,h',decide_false,cond_false,if_false];refine Qdm l Z6 (by omega) ?_ ?_ ?_
  ·intro i x hi hx;simp(disch:=omega)only[Z7,Zc,Int.toNat_natCast,getD_some hx,Z0,l67 (show 400≤F by omega),Option.bind_some,Nat.zero_add];unfold Z6;cases X4 x<;>rfl
  ·simp(disch:=omega)only[Z8]
  ·by_cases h2:Qp (l.map Z6)=0<;>simp[h2]
def Xt(b:Qz)(c:Int):Int:=
 if c=97 then Z6 b.2.1 else if c=99 then Z6 b.2.2.1 else if c=103 then Z6 b.2.2.2.1 else if c=102 then Yn b.2.2.2.2.2.1 else if c=116 then Yn b.2.2.2.2.2.2.1 else if c=107 then Z6 b.2.2.2.2.1
 else if c=109 then Qgx b else Qb1 b.2.2.2.2.2.2.2.2.2.2
theorem Zvf{F:Nat}(hF:400≤F)(b:Qz)(k:ByteArray)(hl:b.2.2.2.2.2.2.2.2.2.2.length≤10)(c:Int):Qm0 F ((b.1,k,b.2),c)=some (Xt b c):=by
 unfold Qm0 Xt;simp only[Zpl hF,Zjg,Zb7,Yfw hF hl,Option.bind_some];by_cases h1:c=97
 ·simp only[h1,decide_true,cond_true,if_true];rfl
 ·by_cases h2:c=99
  ·subst h2;rfl
  ·by_cases h3:c=103
   ·subst h3;rfl
   ·by_cases h4:c=102
    ·subst h4;rfl
    ·by_cases h5:c=116
     ·subst h5;rfl
     ·by_cases h6:c=107
      ·subst h6;rfl
      ·by_cases h7:c=109
       ·subst h7;rfl
       ·simp only[h1,h2,h3,h4,h5,h6,h7,decide_false,cond_false,if_false]
def Ym:ByteArray:={data:=List.toArray ((99:UInt8)::(108:UInt8)::(117:UInt8)::(98:UInt8)::Qa UInt8)}
def Qg4:ByteArray:={data:=List.toArray ((99:UInt8)::Qa UInt8)}
def Yl:ByteArray:={data:=List.toArray ((97:UInt8)::(116:UInt8)::(104:UInt8)::(108:UInt8)::(101:UInt8)::(116:UInt8)::(101:UInt8)::Qa UInt8)}
def Qfh:ByteArray:={data:=List.toArray ((97:UInt8)::(99:UInt8)::(103:UInt8)::(102:UInt8)::Qa UInt8)}
def Yy:ByteArray:={data:=List.toArray ((108:UInt8)::(105:UInt8)::(99:UInt8)::(101:UInt8)::(110:UInt8)::(99:UInt8)::(101:UInt8)::Qa UInt8)}
def Qfw:ByteArray:={data:=List.toArray ((97:UInt8)::(102:UInt8)::(116:UInt8)::Qa UInt8)}
def Yg:ByteArray:={data:=List.toArray ((116:UInt8)::(114:UInt8)::(97:UInt8)::(110:UInt8)::(115:UInt8)::(102:UInt8)::(101:UInt8)::(114:UInt8)::Qa UInt8)}
def Qg8:ByteArray:={data:=List.toArray ((97:UInt8)::(99:UInt8)::Qa UInt8)}
def Yx:ByteArray:={data:=List.toArray ((101:UInt8)::(110:UInt8)::(116:UInt8)::(101:UInt8)::(114:UInt8)::Qa UInt8)}
def Qfo:ByteArray:={data:=List.toArray ((97:UInt8)::(107:UInt8)::(109:UInt8)::Qa UInt8)}
def Yu:ByteArray:={data:=List.toArray ((119:UInt8)::(105:UInt8)::(116:UInt8)::(104:UInt8)::(100:UInt8)::(114:UInt8)::(97:UInt8)::(119:UInt8)::Qa UInt8)}
def Qf1:ByteArray:={data:=List.toArray ((97:UInt8)::(107:UInt8)::Qa UInt8)}
def Yt:ByteArray:={data:=List.toArray ((99:UInt8)::(104:UInt8)::(101:UInt8)::(99:UInt8)::(107:UInt8)::Qa UInt8)}
def Qfi:ByteArray:={data:=List.toArray ((97:UInt8)::(107:UInt8)::Qa UInt8)}
def Yp:ByteArray:={data:=List.toArray ((116:UInt8)::(101:UInt8)::(97:UInt8)::(109:UInt8)::Qa UInt8)}
def Qfm:ByteArray:={data:=List.toArray ((99:UInt8)::(107:UInt8)::(110:UInt8)::Qa UInt8)}
theorem Y9(x:Int)(l:List Int):Qp (x::l)=if x=0 then Qp l else x:=rfl
theorem Ut:∀(l m:List Int),Qp (l++m)=if Qp l=0 then Qp m else Qp l
 |[],m=>by simp[Qp]
 |x::l,m=>by rw[List.cons_append,Y9,Y9,Ut l m];by_cases h:x=0<;>simp[h]
theorem Zf2(f i r:Bool):(bif !f then(bif i then some true else some r)else some r)=some ((!f&&i)||r):=by cases f<;>cases i<;>rfl
theorem Zm6(f r:Bool):(bif !f then some r else some false)=some (!f&&r):=by cases f<;>rfl
theorem Qbx{F:Nat}(hF:400≤F)(b:Qz)(hl:b.2.2.2.2.2.2.2.2.2.2.length≤10)(w L:ByteArray)(A C G K Fr T M N lic:Bool)(fl:List Int)
  (e0:V7 F w=some L) (e1:Qc L {data:=List.toArray (Qa UInt8)}=false) (e2:Qc w {data:=List.toArray ((108:UInt8)::(105:UInt8)::(99:UInt8)::(101:UInt8)::(110:UInt8)::(99:UInt8)::(101:UInt8)::Qa UInt8)}=lic) (hs:L.size≤300)
  (qa:Xe F (L,97)=some A) (qc:Xe F (L,99)=some C) (qg:Xe F (L,103)=some G) (qk:Xe F (L,107)=some K) (qf:Xe F (L,102)=some Fr) (qt:Xe F (L,116)=some T) (qm:Xe F (L,109)=some M) (qn:Xe F (L,110)=some N)
  (hfl:(List.range L.size).map (fun i=>Xt b ((L.get! i).toNat:Int))=fl)
  (hg:Yn b.1=0→Z2 A C G K Fr T M N lic b=Qp (fl++[bif lic then Qem b else 0,if Ji A C G K Fr T M N b=true then 1 else 0])):c24 F (b.1,w,b.2)=some (Z2 A C G K Fr T M N lic b):=by
 have hk:({data:=List.toArray (Qa UInt8)}:ByteArray)=k0:=rfl;have hi:Qoz F (b.1,w,b.2) L=some ((!C&& !Qc b.2.2.1 k0)||((!G&& !Qc b.2.2.2.1 k0)||((!K&& !Qc b.2.2.2.2.1 k0)||((!Fr&& !decide (b.2.2.2.2.2.1=0))||((!T&& !decide (b.2.2.2.2.2.2.1=0))||
   ((!M&& !(b.2.2.2.2.2.2.2.1==k0&&(decide (b.2.2.2.2.2.2.2.2.1=0)&&(b.2.2.2.2.2.2.2.2.2.1==k0&&true))))||(!N&&decide ((0:Int)<(b.2.2.2.2.2.2.2.2.2.2.length:Int))))))))):=by
  unfold Qoz Qus Qvh Qv3 Quz Qvr Qt2;simp only[qc,qg,qk,qf,qt,qm,qn,Option.bind_some,Zm6,Zf2,hk]
 unfold c24;simp only[e0,e1,Quk,Option.bind_some,cond_false];by_cases hd:Xl b.1 99999=true
 ·have:Yn b.1=3:=by unfold Yn;rw[Qr3,if_pos hd]
  simp[hd,Z2,this,Qp]
 ·have hd0:Yn b.1=0:=by unfold Yn;rw[Qr3,if_neg hd]
  have hd':Xl b.1 99999=false:=by simpa using hd
  simp only[hd',cond_false];refine Qub L.size (fun i=>Xt b ((L.get! i).toNat:Int)) (by omega) (by omega) ?_ ?_ ?_
  ·intro i hi;have hb:=Zvf hF b w hl ((L.get! i).toNat:Int);simp(disch:=omega)only[Z7,Zc,Int.toNat_natCast,Z0,Qtl,Zh,hb,Option.bind_some,Qzw]
  ·simp(disch:=omega)only[Z8]
  ·rw[hfl,hg hd0,Ut];by_cases hz:Qp fl=0
   ·simp only[hz,if_true,Sum.elim_inr,e2,qa,hi,hk,Zf2,Option.bind_some];unfold Ji Qem;generalize ((!A&& !Qc b.2.1 k0)||_)=iv;cases lic
    ·cases iv<;>rfl
    ·by_cases ho:b.2.2.2.2.2.2.1<b.2.2.2.2.2.1
     ·simp[ho,Y9]
     ·simp only[ho,decide_false,cond_true,cond_false,if_false,Option.bind_some];cases iv<;>rfl
   ·simp only[hz,if_false,Sum.elim_inl]
theorem Zud(G:Nat):V7 (G+9) Ym=some Qg4:=by kernel_rfl
theorem Zsw{F:Nat}(hF:400≤F)(b:Qz)(hl:b.2.2.2.2.2.2.2.2.2.2.length≤10):c24 F (b.1,Ym,b.2)=some (Z2 false true false false false false false false false b):=by
 have hsz:Qg4.size=1:=rfl;have e3:∀c:Int,Xe F (Qg4,c)=some ((List.range Qg4.size).any fun i=>decide (((Qg4.get! i).toNat:Int)=c)):=fun c=>Qbh (by omega) (by omega) c;refine Qbx hF b hl Ym Qg4 false true false false false false false false false [Xt b 99] ?_ rfl rfl (by omega) ((e3 97).trans rfl) ((e3 99).trans rfl) ((e3 103).trans rfl) ((e3 107).trans rfl) ((e3 102).trans rfl) ((e3 116).trans rfl) ((e3 109).trans rfl) ((e3 110).trans rfl) rfl fun hd=>?_
 ·obtain⟨G,rfl⟩:∃G,F=G+9:=⟨F-9,by omega⟩;exact Zud G
 ·unfold Z2;simp only[Y9,hd,cond_true,cond_false,if_true,List.cons_append,List.nil_append];rfl
theorem Zlg(G:Nat):V7 (G+9) Yl=some Qfh:=by kernel_rfl
theorem Ybk{F:Nat}(hF:400≤F)(b:Qz)(hl:b.2.2.2.2.2.2.2.2.2.2.length≤10):c24 F (b.1,Yl,b.2)=some (Z2 true true true false true false false false false b):=by
 have hsz:Qfh.size=4:=rfl;have e3:∀c:Int,Xe F (Qfh,c)=some ((List.range Qfh.size).any fun i=>decide (((Qfh.get! i).toNat:Int)=c)):=fun c=>Qbh (by omega) (by omega) c;refine Qbx hF b hl Yl Qfh true true true false true false false false false [Xt b 97,Xt b 99,Xt b 103,Xt b 102] ?_ rfl rfl (by omega) ((e3 97).trans rfl) ((e3 99).trans rfl) ((e3 103).trans rfl) ((e3 107).trans rfl) ((e3 102).trans rfl) ((e3 116).trans rfl) ((e3 109).trans rfl) ((e3 110).trans rfl) rfl fun hd=>?_
 ·obtain⟨G,rfl⟩:∃G,F=G+9:=⟨F-9,by omega⟩;exact Zlg G
 ·unfold Z2;simp only[Y9,hd,cond_true,cond_false,if_true,List.cons_append,List.nil_append];rfl
theorem Zyu(G:Nat):V7 (G+9) Yy=some Qfw:=by kernel_rfl
theorem Zo7{F:Nat}(hF:400≤F)(b:Qz)(hl:b.2.2.2.2.2.2.2.2.2.2.length≤10):c24 F (b.1,Yy,b.2)=some (Z2 true false false false true true false false true b):=by
 have hsz:Qfw.size=3:=rfl;have e3:∀c:Int,Xe F (Qfw,c)=some ((List.range Qfw.size).any fun i=>decide (((Qfw.get! i).toNat:Int)=c)):=fun c=>Qbh (by omega) (by omega) c;refine Qbx hF b hl Yy Qfw true false false false true true false false true [Xt b 97,Xt b 102,Xt b 116] ?_ rfl rfl (by omega) ((e3 97).trans rfl) ((e3 99).trans rfl) ((e3 103).trans rfl) ((e3 107).trans rfl) ((e3 102).trans rfl) ((e3 116).trans rfl) ((e3 109).trans rfl) ((e3 110).trans rfl) rfl fun hd=>?_
 ·obtain⟨G,rfl⟩:∃G,F=G+9:=⟨F-9,by omega⟩;exact Zyu G
 ·unfold Z2;simp only[Y9,hd,cond_true,cond_false,if_true,List.cons_append,List.nil_append];rfl
theorem Zmy(G:Nat):V7 (G+9) Yg=some Qg8:=by kernel_rfl
theorem Zni{F:Nat}(hF:400≤F)(b:Qz)(hl:b.2.2.2.2.2.2.2.2.2.2.length≤10):c24 F (b.1,Yg,b.2)=some (Z2 true true false false false false false false false b):=by
 have hsz:Qg8.size=2:=rfl;have e3:∀c:Int,Xe F (Qg8,c)=some ((List.range Qg8.size).any fun i=>decide (((Qg8.get! i).toNat:Int)=c)):=fun c=>Qbh (by omega) (by omega) c;refine Qbx hF b hl Yg Qg8 true true false false false false false false false [Xt b 97,Xt b 99] ?_ rfl rfl (by omega) ((e3 97).trans rfl) ((e3 99).trans rfl) ((e3 103).trans rfl) ((e3 107).trans rfl) ((e3 102).trans rfl) ((e3 116).trans rfl) ((e3 109).trans rfl) ((e3 110).trans rfl) rfl fun hd=>?_
 ·obtain⟨G,rfl⟩:∃G,F=G+9:=⟨F-9,by omega⟩;exact Zmy G
 ·unfold Z2;simp only[Y9,hd,cond_true,cond_false,if_true,List.cons_append,List.nil_append];rfl
theorem Znw(G:Nat):V7 (G+9) Yx=some Qfo:=by kernel_rfl
theorem Zh6{F:Nat}(hF:400≤F)(b:Qz)(hl:b.2.2.2.2.2.2.2.2.2.2.length≤10):c24 F (b.1,Yx,b.2)=some (Z2 true false false true false false true false false b):=by
 have hsz:Qfo.size=3:=rfl;have e3:∀c:Int,Xe F (Qfo,c)=some ((List.range Qfo.size).any fun i=>decide (((Qfo.get! i).toNat:Int)=c)):=fun c=>Qbh (by omega) (by omega) c;refine Qbx hF b hl Yx Qfo true false false true false false true false false [Xt b 97,Xt b 107,Xt b 109] ?_ rfl rfl (by omega) ((e3 97).trans rfl) ((e3 99).trans rfl) ((e3 103).trans rfl) ((e3 107).trans rfl) ((e3 102).trans rfl) ((e3 116).trans rfl) ((e3 109).trans rfl) ((e3 110).trans rfl) rfl fun hd=>?_
 ·obtain⟨G,rfl⟩:∃G,F=G+9:=⟨F-9,by omega⟩;exact Znw G
 ·unfold Z2;simp only[Y9,hd,cond_true,cond_false,if_true,List.cons_append,List.nil_append];rfl
theorem Ykq(G:Nat):V7 (G+9) Yu=some Qf1:=by kernel_rfl
theorem Zm0{F:Nat}(hF:400≤F)(b:Qz)(hl:b.2.2.2.2.2.2.2.2.2.2.length≤10):c24 F (b.1,Yu,b.2)=some (Z2 true false false true false false false false false b):=by
 have hsz:Qf1.size=2:=rfl;have e3:∀c:Int,Xe F (Qf1,c)=some ((List.range Qf1.size).any fun i=>decide (((Qf1.get! i).toNat:Int)=c)):=fun c=>Qbh (by omega) (by omega) c;refine Qbx hF b hl Yu Qf1 true false false true false false false false false [Xt b 97,Xt b 107] ?_ rfl rfl (by omega) ((e3 97).trans rfl) ((e3 99).trans rfl) ((e3 103).trans rfl) ((e3 107).trans rfl) ((e3 102).trans rfl) ((e3 116).trans rfl) ((e3 109).trans rfl) ((e3 110).trans rfl) rfl fun hd=>?_
 ·obtain⟨G,rfl⟩:∃G,F=G+9:=⟨F-9,by omega⟩;exact Ykq G
 ·unfold Z2;simp only[Y9,hd,cond_true,cond_false,if_true,List.cons_append,List.nil_append];rfl
theorem Yhi(G:Nat):V7 (G+9) Yt=some Qfi:=by kernel_rfl
theorem Zqv{F:Nat}(hF:400≤F)(b:Qz)(hl:b.2.2.2.2.2.2.2.2.2.2.length≤10):c24 F (b.1,Yt,b.2)=some (Z2 true false false true false false false false false b):=by
 have hsz:Qfi.size=2:=rfl;have e3:∀c:Int,Xe F (Qfi,c)=some ((List.range Qfi.size).any fun i=>decide (((Qfi.get! i).toNat:Int)=c)):=fun c=>Qbh (by omega) (by omega) c;refine Qbx hF b hl Yt Qfi true false false true false false false false false [Xt b 97,Xt b 107] ?_ rfl rfl (by omega) ((e3 97).trans rfl) ((e3 99).trans rfl) ((e3 103).trans rfl) ((e3 107).trans rfl) ((e3 102).trans rfl) ((e3 116).trans rfl) ((e3 109).trans rfl) ((e3 110).trans rfl) rfl fun hd=>?_
 ·obtain⟨G,rfl⟩:∃G,F=G+9:=⟨F-9,by omega⟩;exact Yhi G
 ·unfold Z2;simp only[Y9,hd,cond_true,cond_false,if_true,List.cons_append,List.nil_append];rfl
theorem Ygp(G:Nat):V7 (G+9) Yp=some Qfm:=by kernel_rfl
theorem Zt6{F:Nat}(hF:400≤F)(b:Qz)(hl:b.2.2.2.2.2.2.2.2.2.2.length≤10):c24 F (b.1,Yp,b.2)=some (Z2 false true false true false false false true false b):=by
 have hsz:Qfm.size=3:=rfl;have e3:∀c:Int,Xe F (Qfm,c)=some ((List.range Qfm.size).any fun i=>decide (((Qfm.get! i).toNat:Int)=c)):=fun c=>Qbh (by omega) (by omega) c;refine Qbx hF b hl Yp Qfm false true false true false false false true false [Xt b 99,Xt b 107,Xt b 110] ?_ rfl rfl (by omega) ((e3 97).trans rfl) ((e3 99).trans rfl) ((e3 103).trans rfl) ((e3 107).trans rfl) ((e3 102).trans rfl) ((e3 116).trans rfl) ((e3 109).trans rfl) ((e3 110).trans rfl) rfl fun hd=>?_
 ·obtain⟨G,rfl⟩:∃G,F=G+9:=⟨F-9,by omega⟩;exact Ygp G
 ·unfold Z2;simp only[Y9,hd,cond_true,cond_false,if_true,List.cons_append,List.nil_append];rfl
end Go.Proofs.Tryz
section

end
