/-
Of half a turned pair: what becomes of it, cut to the bits that are asked; quotients. Plain.
Quotients of narrow intervals; how great the sines of what is not too near 0 are. Plain.
The angle of so many half turns. Plain.
Sine and cosine of so many half turns, turned: they meet the document's. Plain.
Tangents: what the program's quotient is, and that it meets the document's. Plain.
The document's sine and cosine of half turns keep off 0; quotients of 0. Plain.
What TrigpiBoth asks. Plain.
What TrigpiEncloses asks, behind the reading of a binary64 number. Plain.
What is left of a binary64 number behind half turns has room, and is not too near 0. Plain.
The turned pair: on the circle, mirrored, half a turn on. Plain.
What the program and the document leave of one number behind right angles: as many, and a shared rational. Plain.
Sine and cosine of what is left behind right angles. Plain.
Circle, mirror, half a turn: what ulplaw18 asks without the document. Plain.
The tangent on the other side of 0. Plain.
What is left behind right angles of a number that is not 0: it is not 0, and how great it is. Plain.
How sine, cosine and inverse tangent change from number to number; the tangent of the inverse tangent. Plain.
Sequences of angles: sums of them, the sine and the cosine of a quarter and of half of pi. Plain.
Sequences of angles that lie in an interval in the end: what holds of all numbers of the interval holds of them; the pair of half turns. Plain.
Sine and cosine of a sum of so many half turns, turned. Plain.
Binary64 numbers, taken apart: dyad.From, ulpref04.From, bits.Neg.
What the program leaves behind right angles encloses a sequence of angles; its pair of a binary64; what TrigEncloses asks. Plain.
Package trigpi: the turned pairs.
Package trigpi: of, Both, Enclose.
Package ulpref18.
Package ulplaw18: the answers that the document gives; TrigpiEncloses, TrigpiBoth.
Package trig.
The program's and the document's pair of a binary64; what TrigEncloses asks. Plain.
Packages trig, ulpref17: Both, Enclose; ulplaw17: free, like, sound.
Package ulpref17; ulplaw17: free, like; TrigEncloses behind lives.
Package ulplaw17: free, like, lives; TrigEncloses.
ulplaw17: sound; Touch and Lies of ulpref06; TrigCircle, TrigMirror.
ulplaw17: TrigCircle.
Package ulplaw18: statements without the document: their helpers and runs.
ulplaw17: TrigMirror.
ulplaw17: TrigBounds, TrigBoth: their runs.
ulplaw17: TrigBoth.
ulplaw17: TrigBounds; ulpref01.Less.
ulplaw17: TrigBounds.
ulplaw17: TrigBounds: the statement.
From the arguments of a row to numbers and intervals; what a law's call leaves.
-/
import Derived.Test.YtenkjloaghmjfaaGreatDoorMg4
import Derived.Test.YtenkjloaghmjfaaGreatDoorMg3
import Derived.Test.YtenkjloaghmjfaaGreatDoorMg2
import Derived.ProofKit
import Derived.LaidMore
import Derived.OpenShut
import Derived.LaidLaws
import Derived.Carry
import Derived.OpenVars
import Derived.Deep.Strs
import Derived.ChangeCalls
import Derived.Stop.Joined
namespace Go.Proofs.YtenkjloaghmjfaaGreatDoor
open Go.RowKit
theorem fits_small{z:Dx}(h:OneF z)(hb:z.Bd 32768 64):z.fitsB=true:=by
  have m0:=h.p
  have l:=hb.lo
  have u:=hb.hi
  have w:=ws_len_blen m0
  have g:greatB z.m=false:=by unfold greatB;exact decide_eq_false (by omega)
  unfold Dx.fitsB
  rw [g,decide_eq_true (show -32768≤z.e by omega),decide_eq_true (show z.e≤32768 by omega)];rfl
theorem small_bd{d:Dx}(h:OneF d)(hf:d.fitsB=true)(h1:-32≤d.rv)(h2:d.rv≤32):d.Bd 32768 8:=by
  have b:=fits_bd hf
  refine ⟨by omega,by omega,b.lo,?_⟩
  by_cases z:d.m=0
  · rw [h.zero z]
    show (0:Int)+(blen (val []):Int)≤8
    decide
  · have m0:=h.p
    have g:=amt_ge (m:=d.m) (e:=d.e) (by omega)
    obtain ⟨r1,r2⟩:=rv_amt h.p
    have q5:p2 5=32:=by decide +kernel
    have:p2 (d.e+(blen d.m:Int)-1)≤p2 5:=by
      rw [q5]
      rcases (show 0≤d.rv∨d.rv≤0 by grind) with s | s
      · have:=r1 s;grind
      · have:=r2 s;grind
    have:=p2_lt_iff.1 (show p2 (d.e+(blen d.m:Int)-1)<p2 6 by
      have e:p2 6=64:=by decide +kernel
      rw [e];rw [q5] at this;grind)
    omega
structure Half (η:Rat) (X:Vx) (s:Nat→Rat):Prop where
  p:X.P
  f:OneV X
  r:rightV X=true
  t:Thin η X
  b:-32≤X.lo.rv∧X.hi.rv≤32
  e:Enc s X.lo.rv X.hi.rv
theorem turn_rv{v:Vx}(h:v.P):(turnV v).lo.rv = -v.hi.rv∧(turnV v).hi.rv = -v.lo.rv:=⟨rv_neg h.2,rv_neg h.1⟩
theorem turn_zero:turnV zeroIv=zeroIv:=by
  have:negD ⟨false,[],0⟩=⟨false,[],0⟩:=mkD_zero _ _
  show (⟨negD ⟨false,[],0⟩,negD ⟨false,[],0⟩⟩:Vx)=_
  rw [this];rfl
theorem NarV.turn{δ:Rat}{v:Vx}(hv:v.P)(h:NarV δ v):NarV δ (turnV v):=by
  obtain ⟨r1,r2⟩:=turn_rv hv
  unfold NarV
  rw [r1,r2,Rat.neg_neg,Rat.neg_neg]
  exact h.symm
theorem Half.turn{η:Rat}{X:Vx}{s:Nat→Rat}(h:Half η X s):Half η (turnV X) (fun n=>-s n):=by
  obtain ⟨r1,r2⟩:=turn_rv h.p
  have f:=right_fits h.r
  have le:=right_le h.r
  refine ⟨⟨negD_p,negD_p⟩,⟨negD_f h.p.2,negD_f h.p.1⟩,right_of (fits_neg h.f.2 f.2.1) (fits_neg h.f.1 f.1) (by rw [r1,r2];grind),?_,by rw [r1,r2];have:=h.b;constructor<;>grind,by rw [r1,r2];exact h.e.neg⟩
  rcases h.t with e | n
  · exact .inl (by rw [e,turn_zero])
  · exact .inr (n.turn h.p)
structure Fin1 (p:Int) (Y:Vx):Prop where
  q:Y.P
  f:OneV Y
  r:rightV Y=true
  n:narrowB Y p=true
theorem vm_nar{δ:Rat}{v:Vx}(h:NarV δ v):∃ L H,VM δ L H v:=by
  rcases h with h | h
  · exact ⟨_,_,.inl ⟨h.1,Rat.le_refl,Rat.le_refl,h⟩⟩
  · exact ⟨_,_,.inr ⟨h.1,Rat.le_refl,Rat.le_refl,h⟩⟩
theorem narrow_zero{p:Int}(p0:0≤p):narrowB zeroIv p=true:=by
  have n:narrowV zeroIv p=true:=by unfold narrowV;rw [if_neg (by decide),if_pos (by decide)]
  rw [narrowB,zero_right,n,show leI 0 p=true from leI_true.2 p0];rfl
theorem fin_ok{X:Vx}{p:Int}{η:Rat}(hp:X.P)(hf:OneV X)(hr:rightV X=true)(ht:Thin η X)(hb:-32≤X.lo.rv∧X.hi.rv≤32)(h0:0≤η)(p0:8≤p)(hd:2*η+4*p2 (-7-p)≤p2 (-p)):Fin1 p (trimV X (p+8)):=by
  have f:=right_fits hr
  have le:=right_le hr
  have e1:eps (p+8)=p2 (-7-p):=by unfold eps;congr 1;omega
  have e4:4*eps (p+8)≤1:=by
    rw [e1]
    have:=p2_le (show -7-p≤-2 by omega)
    have e:p2 (-2)=1/4:=by decide +kernel
    rw [e] at this;grind
  have F:OneV (trimV X (p+8)):=⟨cutD_f hp.1,cutD_f hp.2⟩
  have B1:=(small_bd hf.1 f.1 hb.1 (by grind)).cut (p:=p+8) (up:=false) hp.1 (by omega)
  have B2:=(small_bd hf.2 f.2.1 (by grind) hb.2).cut (p:=p+8) (up:=true) hp.2 (by omega)
  obtain ⟨b1,b2⟩:=trim_best hp (p:=p+8) (by omega)
  have R:rightV (trimV X (p+8))=true:=right_of (fits_small F.1 (B1.mono (by omega) (by omega))) (fits_small F.2 (B2.mono (by omega) (by omega))) (by
    have:=b1.2.1;have:=b2.2.1;grind)
  refine ⟨trimV_p _ _,F,R,?_⟩
  rcases ht with e | n
  · rw [e,trim_zero _ (by omega)];exact narrow_zero (by omega)
  · obtain ⟨L,H,m⟩:=vm_nar (n.trim hp h0 (p:=p+8) (by omega) e4)
    exact narrow_of (trimV_p _ _) R (by omega) m (by rw [e1];exact hd)
theorem Fin1.encl{p:Int}{Y U:Vx}(h:Fin1 p Y)(h1:Y.lo.rv≤U.hi.rv)(h2:U.lo.rv≤Y.hi.rv):enclB Y U p=true:=by
  have c:canonV Y=Y:=by
    show (⟨oneD _,oneD _⟩:Vx)=_
    rw [oneD_id h.f.1,oneD_id h.f.2]
  rw [enclB,h.r,c,sameV_refl2,h.n,leI_true.2 (cmpD_le.2 h1),leI_true.2 (cmpD_le.2 h2)];rfl
theorem inv_anti{a b:Rat}(a0:0<a)(h:a≤b):b⁻¹≤a⁻¹∧0<b⁻¹:=by
  have b0:0<b:=by grind
  have pa:=Rat.inv_pos.2 a0
  have pb:=Rat.inv_pos.2 b0
  have ea:=Rat.inv_mul_cancel a (by grind)
  have eb:=Rat.inv_mul_cancel b (by grind)
  have m:=rmL h (rlL (Rat.mul_pos pa pb))
  refine ⟨?_,pb⟩
  have e1:a⁻¹*b⁻¹*a=b⁻¹:=by rw [Rat.mul_comm a⁻¹,Rat.mul_assoc,ea,Rat.mul_one]
  have e2:a⁻¹*b⁻¹*b=a⁻¹:=by rw [Rat.mul_assoc,eb,Rat.mul_one]
  grind
theorem quo_nar{δ η a b c d x y x' y':Rat}(h:Nar δ a b)(k:Nar η c d)(d0:0≤δ)(n0:0≤η)(x1:a≤x)(x2:x≤b)(y1:c≤y)(y2:y≤d)(x1':a≤x')(x2':x'≤b)(y1':c≤y')(y2':y'≤d) :
    0<x*y⁻¹∧x' * y'⁻¹≤x*y⁻¹+(δ+η+δ*η)*(x*y⁻¹):=by
  obtain ⟨a0,ab,bd⟩:=h
  obtain ⟨c0,cd,dd⟩:=k
  have yp:0<y:=by grind
  have yp':0<y':=by grind
  have iy:=Rat.inv_pos.2 yp
  have iy':=Rat.inv_pos.2 yp'
  have ey:=Rat.inv_mul_cancel y (by grind)
  have ey':=Rat.inv_mul_cancel y' (by grind)
  refine ⟨Rat.mul_pos (by grind) iy,?_⟩
  have m1:=rmL x1 d0
  have m2:=rmL y1' n0
  have t1:x'≤x+δ*x:=by grind
  have t2:y≤y' + η*y':=by grind
  have t3:=rmR t1 (rlL yp)
  have t4:=rmL t2 (show 0≤x+δ*x by have:=rmN d0 (show 0≤x by grind);grind)
  have t5:=rmR (show x' * y≤(x+δ*x)*(y' + η*y') by grind) (rlL (Rat.mul_pos iy iy'))
  have e1:x' * y*(y⁻¹*y'⁻¹)=x' * y'⁻¹:=by
    rw [show x' * y*(y⁻¹*y'⁻¹)=x' * y'⁻¹*(y⁻¹*y) by grind,ey,Rat.mul_one]
  have e2:(x+δ*x)*(y' + η*y')*(y⁻¹*y'⁻¹)=(x*y⁻¹+(δ+η+δ*η)*(x*y⁻¹))*(y'⁻¹*y'):=by grind
  rw [e1,e2,ey',Rat.mul_one] at t5
  exact t5
theorem quo_up_dn{ζ q1 q2 l h:Rat}{p:Int}(hp:1≤p)(he:4*eps p≤1)(z0:0≤ζ)(q0:0<q1)(hl:Dn p q1 l)(hh:Up p q2 h)(le:l≤h)(hq:q2≤q1+ζ*q1)(q20:0<q2):Nar (2*ζ+4*eps p) l h:=by
  obtain ⟨r1,r2⟩:=hl.rel hp q0
  have r3:=hh.rel hp q20
  have e0:=eps_pos p
  have m1:=rmL hq (rlL e0)
  have z1:=rmN z0 (rlL q0)
  have m2:=rmR he (rlL q0)
  have m3:=rmR he z1
  have m4:=rmL r1 (show 0≤2*ζ+4*eps p by grind)
  have m5:=rmL m2 (rlL e0)
  have m6:=rmN (rlL e0) (rlL q0)
  exact ⟨r2,le,by grind⟩
theorem pair_vm{v:Vx}{q A:Int}{δ:Rat}(hv:v.P)(h1:faultD v.lo q=0)(h2:faultD v.hi q=0)(hn:NarV δ v)(hA:p2 A≤v.lo.rv∨p2 A≤-v.hi.rv)(a0:-20000≤A)(d0:0≤δ)(hd:δ≤p2 (-q)) :
    rightV (trimV (sinesV (onesV v) q) (q+8))=true∧VM (p2 (5-q)) (p2 (A-5)) (p2 5) (trimV (sinesV (onesV v) q) (q+8)):=by
  obtain ⟨f1,p0,p1,m1⟩:=fault0 hv.1 h1
  obtain ⟨f2,_,_,m2⟩:=fault0 hv.2 h2
  have e1:eps (q+8)=p2 (-7-q):=by unfold eps;congr 1;omega
  have e4:4*eps (q+8)≤1:=by
    rw [e1]
    have:=p2_le (show -7-q≤-2 by omega)
    have e:p2 (-2)=1/4:=by decide +kernel
    rw [e] at this;grind
  have k36:p2 (-36-q)≤p2 (-q)/8:=by
    have:=p2_le (show -36-q≤-3 + -q by omega)
    rw [p2_add] at this
    have e:p2 (-3)=1/8:=by decide +kernel
    rw [e] at this;grind
  have k7:p2 (-7-q)≤p2 (-q)/64:=by
    have:=p2_le (show -7-q≤-6 + -q by omega)
    rw [p2_add] at this
    have e:p2 (-6)=1/64:=by decide +kernel
    rw [e] at this;grind
  have k5:p2 (5-q)=32*p2 (-q):=by
    rw [show 5-q=5 + -q by omega,p2_add]
    have e:p2 5=32:=by decide +kernel
    rw [e]
  have q8:p2 (-q)≤1/8:=by
    have:=p2_le (show -q≤-3 by omega)
    have e:p2 (-3)=1/8:=by decide +kernel
    rw [e] at this;exact this
  have w36:=rlL (p2_pos (-36-q))
  have q0:=p2_pos (-q)
  have SB:=sines_nar (p:=q) hv m1 m2 hn hA d0 (by grind) (by omega) (by omega)
  have V:=SB.vm.trim SB.p (p:=q+8) (by grind) (by omega) e4
  have l1:p2 (A-4)/2=p2 (A-5):=by have:=p2_half (A-5);rw [show A-5+1=A-4 by omega] at this;grind
  have l2:2*p2 4=p2 5:=p2_half 4
  rw [l1,l2] at V
  have V':=V.mono (η:=p2 (5-q)) (by rw [e1,k5];grind) (p2_pos _) Rat.le_refl Rat.le_refl
  exact ⟨cut_right SB.p V' (by omega) (by omega) (by omega) (by omega),V'⟩
theorem inv_neg1{b:Rat}(hb:b≠0):(-b)⁻¹ = -b⁻¹:=by
  have e:=Rat.inv_mul_cancel b hb
  have f:=Rat.inv_mul_cancel (-b) (by grind)
  have g:(-b)⁻¹=(-b)⁻¹*(b⁻¹*b):=by rw [e,Rat.mul_one]
  have h:(-b)⁻¹*(b⁻¹*b) = -((-b)⁻¹*(-b)*b⁻¹):=by grind
  rw [g,h,f,Rat.one_mul]
theorem p2_inv(a:Int):(p2 a)⁻¹=p2 (-a):=by
  have e:=Rat.inv_mul_cancel (p2 a) (by have:=p2_pos a;grind)
  have f:=p2_neg a
  have g:(p2 a)⁻¹*(p2 (-a)*p2 a)=(p2 a)⁻¹:=by rw [f,Rat.mul_one]
  have h:(p2 a)⁻¹*(p2 (-a)*p2 a)=p2 (-a)*((p2 a)⁻¹*p2 a):=by grind
  rw [←g,h,e,Rat.mul_one]
theorem quo_size{A B C D:Int}{x y:Rat}(x1:p2 A≤x)(x2:x≤p2 B)(y1:p2 C≤y)(y2:y≤p2 D):p2 (A-D)≤x*y⁻¹∧x*y⁻¹≤p2 (B-C):=by
  have a0:=p2_pos A
  have c0:=p2_pos C
  obtain ⟨i1,i0⟩:=inv_anti (show 0<y by grind) y2
  obtain ⟨j1,j0⟩:=inv_anti c0 y1
  rw [p2_inv] at i1 i0 j1
  have m1:=rmR x1 (rlL i0)
  have m2:=rmL i1 (show 0≤x by grind)
  have m3:=rmL j1 (show 0≤x by grind)
  have m4:=rmR x2 (rlL (p2_pos (-C)))
  rw [←p2_add] at m1 m4
  exact ⟨by rw [show A-D=A + -D by omega];grind,by rw [show B-C=B + -C by omega];grind⟩
theorem quo_nm{ζ l h q1 q2:Rat}{A B p:Int}(hp:1≤p)(he:4*eps p≤1)(z0:0≤ζ)(h1:p2 A≤q1)(h2:q2≤p2 B)(hl:Dn p q1 l)(hh:Up p q2 h)(le:l≤h)(hq:q2≤q1+ζ*q1)(q20:0<q2):NM (2*ζ+4*eps p) (p2 (A-1)) (p2 (B+1)) l h:=by
  have a0:=p2_pos A
  have r1:=(hl.rel hp (show 0<q1 by grind)).1
  have r2:=hh.rel hp q20
  have m1:=rmR he (show 0≤q1 by grind)
  have m2:=rmR he (rlL q20)
  have d1:=p2_half (A-1)
  rw [show A-1+1=A by omega] at d1
  have d2:=p2_half B
  exact ⟨p2_pos _,by grind,by grind,quo_up_dn hp he z0 (by grind) hl hh le hq q20⟩
theorem div_vm{X Z:Vx}{δ η:Rat}{A B C D p:Int}(hX:X.P)(hZ:Z.P)(hx:VM δ (p2 A) (p2 B) X)(hz:VM η (p2 C) (p2 D) Z)(d0:0≤δ)(n0:0≤η)(hp:1≤p)(he:4*eps p≤1) :
    (divV X Z p).lo.rv≤(divV X Z p).hi.rv∧Off0 Z∧VM (2*(δ+η+δ*η)+4*eps p) (p2 (A-D-1)) (p2 (B-C+1)) (divV X Z p):=by
  have zle:=vm_le hz
  have off:Off0 Z:=by
    rcases hz with h | h
    · exact .inl h.nar.1
    · exact .inr (by have:=h.nar.1;grind)
  have ze:0≤δ+η+δ*η:=by have:=rmN d0 n0;grind
  obtain ⟨⟨a,b,k1,e1⟩,a',b',k2,e2⟩:=div_at X Z p
  have b1:=k1.best hX hZ off zle hp
  have b2:=k2.best hX hZ off zle hp
  have le:(divV X Z p).lo.rv≤(divV X Z p).hi.rv:=by
    have:=(div_lo X Z p k1).2
    have x1:=b1.2.1.2.1
    have x2:=b1.2.2.2.1
    rw [e1];grind
  refine ⟨le,off,?_⟩
  obtain ⟨bn,bD,_⟩:=b1
  obtain ⟨bn',_,bU⟩:=b2
  rw [←e1] at bD
  rw [←e2] at bU
  obtain ⟨ca,cb⟩:=k1
  obtain ⟨ca',cb'⟩:=k2
  have sx:(∀ d:Dx,d=X.lo∨d=X.hi→X.lo.rv≤d.rv∧d.rv≤X.hi.rv):=fun d h=>by
    have:=vm_le hx
    rcases h with e | e<;>rw [e]<;>exact ⟨by grind,by grind⟩
  have sz:(∀ d:Dx,d=Z.lo∨d=Z.hi→Z.lo.rv≤d.rv∧d.rv≤Z.hi.rv):=fun d h=>by
    rcases h with e | e<;>rw [e]<;>exact ⟨by grind,by grind⟩
  obtain ⟨a1,a2⟩:=sx a ca
  obtain ⟨a1',a2'⟩:=sx a' ca'
  obtain ⟨c1,c2⟩:=sz b cb
  obtain ⟨c1',c2'⟩:=sz b' cb'
  rcases hx with h | h<;>rcases hz with k | k
  · have q:=quo_nar h.nar k.nar d0 n0 a1 a2 c1 c2 a1' a2' c1' c2'
    have q':=(quo_nar h.nar k.nar d0 n0 a1' a2' c1' c2' a1 a2 c1 c2).1
    have s1:=(quo_size (A:=A) (B:=B) (C:=C) (D:=D) (x:=a.rv) (y:=b.rv) (by have:=h.lo;grind) (by have:=h.hi;grind) (by have:=k.lo;grind) (by have:=k.hi;grind)).1
    have s2:=(quo_size (A:=A) (B:=B) (C:=C) (D:=D) (x:=a'.rv) (y:=b'.rv) (by have:=h.lo;grind) (by have:=h.hi;grind) (by have:=k.lo;grind) (by have:=k.hi;grind)).2
    exact .inl (quo_nm hp he ze s1 s2 bD bU le q.2 q')
  · have q:=quo_nar h.nar k.nar d0 n0 (x:=a'.rv) (y:=-b'.rv) (x':=a.rv) (y':=-b.rv) a1' a2' (by grind) (by grind) a1 a2 (by grind) (by grind)
    have q':=(quo_nar h.nar k.nar d0 n0 (x:=a.rv) (y:=-b.rv) (x':=a'.rv) (y':=-b'.rv) a1 a2 (by grind) (by grind) a1' a2' (by grind) (by grind)).1
    have s1:=(quo_size (A:=A) (B:=B) (C:=C) (D:=D) (x:=a'.rv) (y:=-b'.rv) (by have:=h.lo;grind) (by have:=h.hi;grind) (by have:=k.lo;grind) (by have:=k.hi;grind)).1
    have s2:=(quo_size (A:=A) (B:=B) (C:=C) (D:=D) (x:=a.rv) (y:=-b.rv) (by have:=h.lo;grind) (by have:=h.hi;grind) (by have:=k.lo;grind) (by have:=k.hi;grind)).2
    rw [inv_neg1 bn'] at q s1
    rw [inv_neg1 bn] at q q' s2
    refine .inr (quo_nm hp he ze s1 s2 ?_ ?_ (by grind) q.2 q')
    · have:=bU.neg;rwa [show a'.rv * -b'.rv⁻¹ = -(a'.rv*b'.rv⁻¹) by grind]
    · have:=bD.neg;rwa [show a.rv * -b.rv⁻¹ = -(a.rv*b.rv⁻¹) by grind]
  · have q:=quo_nar h.nar k.nar d0 n0 (x:=-a'.rv) (y:=b'.rv) (x':=-a.rv) (y':=b.rv) (by grind) (by grind) c1' c2' (by grind) (by grind) c1 c2
    have q':=(quo_nar h.nar k.nar d0 n0 (x:=-a.rv) (y:=b.rv) (x':=-a'.rv) (y':=b'.rv) (by grind) (by grind) c1 c2 (by grind) (by grind) c1' c2').1
    have s1:=(quo_size (A:=A) (B:=B) (C:=C) (D:=D) (x:=-a'.rv) (y:=b'.rv) (by have:=h.lo;grind) (by have:=h.hi;grind) (by have:=k.lo;grind) (by have:=k.hi;grind)).1
    have s2:=(quo_size (A:=A) (B:=B) (C:=C) (D:=D) (x:=-a.rv) (y:=b.rv) (by have:=h.lo;grind) (by have:=h.hi;grind) (by have:=k.lo;grind) (by have:=k.hi;grind)).2
    refine .inr (quo_nm hp he ze s1 s2 ?_ ?_ (by grind) q.2 q')
    · have:=bU.neg;rwa [show -a'.rv*b'.rv⁻¹ = -(a'.rv*b'.rv⁻¹) by grind]
    · have:=bD.neg;rwa [show -a.rv*b.rv⁻¹ = -(a.rv*b.rv⁻¹) by grind]
  · have q:=quo_nar h.nar k.nar d0 n0 (x:=-a.rv) (y:=-b.rv) (x':=-a'.rv) (y':=-b'.rv) (by grind) (by grind) (by grind) (by grind) (by grind) (by grind) (by grind) (by grind)
    have q':=(quo_nar h.nar k.nar d0 n0 (x:=-a'.rv) (y:=-b'.rv) (x':=-a.rv) (y':=-b.rv) (by grind) (by grind) (by grind) (by grind) (by grind) (by grind) (by grind) (by grind)).1
    have s1:=(quo_size (A:=A) (B:=B) (C:=C) (D:=D) (x:=-a.rv) (y:=-b.rv) (by have:=h.lo;grind) (by have:=h.hi;grind) (by have:=k.lo;grind) (by have:=k.hi;grind)).1
    have s2:=(quo_size (A:=A) (B:=B) (C:=C) (D:=D) (x:=-a'.rv) (y:=-b'.rv) (by have:=h.lo;grind) (by have:=h.hi;grind) (by have:=k.lo;grind) (by have:=k.hi;grind)).2
    rw [inv_neg1 bn] at q s1
    rw [inv_neg1 bn'] at q q' s2
    have t1:-a.rv * -b.rv⁻¹=a.rv*b.rv⁻¹:=by grind
    have t2:-a'.rv * -b'.rv⁻¹=a'.rv*b'.rv⁻¹:=by grind
    rw [t1] at q s1
    rw [t2] at q q' s2
    exact .inl (quo_nm hp he ze s1 s2 bD bU le q.2 q')
def angH(r:Dx)(p:Int):Vx:=timesV (refPi (p+40)) (pointV r) (p+40)
def turnP(k:Int)(b:Vx×Vx):Vx×Vx:=if k=1 then (b.2,turnV b.1) else if k=2 then (turnV b.1,turnV b.2) else if k=3 then (turnV b.2,b.1) else b
theorem Enc.turn{s:Nat→Rat}{U:Vx}(hU:U.P)(h:Enc s U.lo.rv U.hi.rv):Enc (fun n=>-s n) (turnV U).lo.rv (turnV U).hi.rv:=by
  obtain ⟨r1,r2⟩:=turn_rv hU
  rw [r1,r2];exact h.neg
theorem half_encl{η:Rat}{X U:Vx}{s:Nat→Rat}{p:Int}(h:Half η X s)(k:Enc s U.lo.rv U.hi.rv)(p0:8≤p)(e0:0≤η)(he:η≤p2 (-19-p)):enclB (trimV X (p+8)) U p=true:=by
  have k1:p2 (-7-p)≤p2 (-p)/64:=by
    have:=p2_le (show -7-p≤-6 + -p by omega)
    rw [p2_add] at this
    have e:p2 (-6)=1/64:=by decide +kernel
    rw [e] at this;grind
  have k2:p2 (-19-p)≤p2 (-p)/64:=by
    have:=p2_le (show -19-p≤-6 + -p by omega)
    rw [p2_add] at this
    have e:p2 (-6)=1/64:=by decide +kernel
    rw [e] at this;grind
  have q:=p2_pos (-p)
  have F:=fin_ok h.p h.f h.r h.t h.b e0 p0 (by grind)
  have E:=trim_enc h.p (p:=p+8) (by omega) h.e
  exact F.encl (E.meets k) (k.meets E)
theorem trim_in2{v:Vx}{p:Int}{x:Rat}(hv:v.P)(hp:1≤p)(h:InV v x):InV (trimV v p) x:=by
  obtain ⟨b1,b2⟩:=trim_best hv hp
  have:=b1.2.1
  have:=b2.2.1
  exact ⟨by have:=h.1;grind,by have:=h.2;grind⟩
theorem quo_fin{X Z:Vx}{η:Rat}{A B C D p q:Int}(hX:X.P)(hZ:Z.P)(hp:(divV X Z q).P)(hx:VM η (p2 A) (p2 B) X)(hz:VM η (p2 C) (p2 D) Z)(e0:0≤η)(he:η≤p2 (-19-p))(p0:8≤p)(p1:p≤2064)(hq:p+16≤q)(a0:-20000≤A-D)(b0:B-C≤20000) :
    Off0 Z∧Fin1 p (trimV (divV X Z q) (p+8)):=by
  have e1:eps q≤p2 (-15-p):=p2_le (by omega)
  have e2:eps (p+8)=p2 (-7-p):=by unfold eps;congr 1;omega
  have k15:p2 (-15-p)≤p2 (-p)/64:=by
    have:=p2_le (show -15-p≤-6 + -p by omega)
    rw [p2_add] at this
    have e:p2 (-6)=1/64:=by decide +kernel
    rw [e] at this;grind
  have k7:p2 (-7-p)≤p2 (-p)/64:=by
    have:=p2_le (show -7-p≤-6 + -p by omega)
    rw [p2_add] at this
    have e:p2 (-6)=1/64:=by decide +kernel
    rw [e] at this;grind
  have k19:p2 (-19-p)≤p2 (-p)/64:=by
    have:=p2_le (show -19-p≤-6 + -p by omega)
    rw [p2_add] at this
    have e:p2 (-6)=1/64:=by decide +kernel
    rw [e] at this;grind
  have k15':p2 (-15-p)≤p2 (-p)/1024:=by
    have:=p2_le (show -15-p≤-10 + -p by omega)
    rw [p2_add] at this
    have e:p2 (-10)=1/1024:=by decide +kernel
    rw [e] at this;grind
  have k19':p2 (-19-p)≤p2 (-p)/1024:=by
    have:=p2_le (show -19-p≤-10 + -p by omega)
    rw [p2_add] at this
    have e:p2 (-10)=1/1024:=by decide +kernel
    rw [e] at this;grind
  have q1:p2 (-p)≤1/8:=by
    have:=p2_le (show -p≤-3 by omega)
    have e:p2 (-3)=1/8:=by decide +kernel
    rw [e] at this;exact this
  have q0:=p2_pos (-p)
  have eq0:=eps_pos q
  obtain ⟨le,off,V⟩:=div_vm hX hZ hx hz e0 e0 (p:=q) (by omega) (by grind)
  have sq:=rmL (show η≤1 by grind) e0
  have T:=V.trim hp (p:=p+8) (by have:=rmN e0 e0;grind) (by omega) (by rw [e2];grind)
  have l1:p2 (A-D-1)/2=p2 (A-D-2):=by have:=p2_half (A-D-2);rw [show A-D-2+1=A-D-1 by omega] at this;grind
  have l2:2*p2 (B-C+1)=p2 (B-C+2):=by rw [p2_half];congr 1;omega
  rw [l1,l2] at T
  have T':=T.mono (η:=p2 (-p)) (by rw [e2];grind) (p2_pos _) Rat.le_refl Rat.le_refl
  have R:=cut_right hp T' (by omega) (by omega) (by omega) (by omega)
  exact ⟨off,trimV_p _ _,⟨cutD_f hp.1,cutD_f hp.2⟩,R,narrow_of (trimV_p _ _) R (by omega) T' Rat.le_refl⟩
theorem Off0.turn{U:Vx}(hU:U.P)(h:Off0 U):Off0 (turnV U):=by
  obtain ⟨r1,r2⟩:=turn_rv hU
  unfold Off0 at h ⊢
  rw [r1,r2]
  rcases h with h | h
  · exact .inr (by grind)
  · exact .inl (by grind)
theorem angH_off{r:Dx}(hr:0≤r.m)(h0:r.rv≠0){p:Int}(p0:8≤p)(p1:p≤8000):Off0 (angH r p):=by
  have P:=refPi_iv (w:=p+40) (by omega) (by omega)
  obtain ⟨q1,q2⟩:=pointV_rv hr
  obtain ⟨⟨x0,y0,hx0,hy0,g1⟩,x1,y1,hx1,hy1,g2⟩:=prod_at P.p (pointV_p r)
  obtain ⟨t1,t2⟩:=times_best (p:=p+40) (by omega) P.p (pointV_p r)
  have l:=P.lo
  have le:=P.le
  have e0:y0=r.rv:=by rcases hy0 with e | e<;>rw [e];exact q1;exact q2
  have e1:y1=r.rv:=by rcases hy1 with e | e<;>rw [e];exact q1;exact q2
  have b0:0<x0:=by rcases hx0 with e | e<;>rw [e]<;>grind
  have b1:0<x1:=by rcases hx1 with e | e<;>rw [e]<;>grind
  rcases (show 0<r.rv∨r.rv<0 by grind) with s | s
  · left
    exact (t1.rel (by omega) (by rw [g1,e0];exact Rat.mul_pos b0 s)).2
  · right
    have h:=(t2.neg.rel (by omega) (by rw [g2,e1];have:=Rat.mul_pos b1 (show 0 < -r.rv by grind);grind)).2
    show (timesV (refPi (p+40)) (pointV r) (p+40)).hi.rv<0
    grind
theorem sinesH_off{v:Vx}{p:Int}(hv:v.P)(f1:small1 v.lo)(f2:small1 v.hi)(p0:0≤p)(p1:p≤60000)(h:Off0 v):Off0 (sinesH v p):=by
  have amt:∀ {t:Dx},0≤t.m→t.rv≠0→∃ k,p2 k≤(t.m:Rat)*p2 t.e:=fun {t} ht h0=>by
    obtain ⟨a1,a2⟩:=rv_amt ht
    have pos:0<(t.m:Rat)*p2 t.e:=by
      rcases (show 0<t.rv∨t.rv<0 by grind) with s | s
      · rw [←a1 (by grind)];exact s
      · rw [←a2 (by grind)];grind
    obtain ⟨k,k1,_⟩:=log2_ex pos
    exact ⟨k,k1⟩
  rcases h with h | h
  · obtain ⟨k,hk⟩:=amt hv.1 (by grind)
    obtain ⟨_,V2,V3⟩:=sineH_iv hv.1 f1 (by grind) hk p0 p1
    have:=sinS_bd0 h f1.1 V2
    left
    show 0<(sineH v.lo p).lo.rv
    rcases V3 with n | n
    · exact n.nar.1
    · exfalso;have:=n.nar.1;grind
  · obtain ⟨k,hk⟩:=amt hv.2 (by grind)
    obtain ⟨_,V2,V3⟩:=sineH_iv hv.2 f2 (by grind) hk p0 p1
    have:=sinS_bd' h f2.2 V2
    right
    show (sineH v.hi p).hi.rv<0
    rcases V3 with n | n
    · exfalso;have:=n.nar.1;grind
    · have:=n.nar.1;grind
theorem cosinesH_off{v:Vx}{p:Int}(hv:v.P)(f1:small1 v.lo)(f2:small1 v.hi)(p0:0≤p)(p1:p≤60000):Off0 (cosinesH v p):=by
  have A:=cosineH_iv (p:=p) hv.1 f1 p0 p1
  have B:=cosineH_iv (p:=p) hv.2 f2 p0 p1
  have q:=p2_pos (-2)
  have lo2:(cosinesH v p).lo=(hullV (cosineH v.lo p) (cosineH v.hi p)).lo:=by
    unfold cosinesH;split<;>rfl
  left
  rw [lo2]
  rcases (hull_lo (cosineH v.lo p) (cosineH v.hi p)).2.2 with e | e<;>rw [e]
  · have:=A.2.2.lo;grind
  · have:=B.2.2.lo;grind
theorem VM.turn{δ L H:Rat}{v:Vx}(hv:v.P)(h:VM δ L H v):VM δ L H (turnV v):=by
  obtain ⟨r1,r2⟩:=turn_rv hv
  unfold VM
  rw [r1,r2,Rat.neg_neg,Rat.neg_neg]
  exact h.symm
theorem vm_off{δ L H:Rat}{v:Vx}(h:VM δ L H v):Off0 v:=by
  rcases h with h | h
  · exact .inl h.nar.1
  · exact .inr (by have:=h.nar.1;grind)
theorem fits_bd2{z:Dx}(h:OneF z)(hb:z.Bd 32768 32000):z.fitsB=true:=by
  have m0:=h.p
  have l:=hb.lo
  have u:=hb.hi
  have w:=ws_len_blen m0
  have g:greatB z.m=false:=by unfold greatB;exact decide_eq_false (by omega)
  unfold Dx.fitsB
  rw [g,decide_eq_true (show -32768≤z.e by omega),decide_eq_true (show z.e≤32768 by omega)];rfl
def turS(k:Int)(b:(Nat→Rat)×(Nat→Rat)):(Nat→Rat)×(Nat→Rat) :=
  if k=1 then (b.2,fun n=>-b.1 n) else if k=2 then (fun n=>-b.1 n,fun n=>-b.2 n) else if k=3 then (fun n=>-b.2 n,b.1) else b
theorem cq_of{x:Dx}{p:Int}(h:(quarR x p).2.2=0):condQ x p:=by
  rcases quar_cases x p with ⟨_,q⟩|⟨c,_⟩|⟨c,_⟩|⟨c,_⟩|⟨c,_⟩
  · rw [q] at h;cases h
  all_goals exact c
theorem near_bd2{x c z:Rat}{n:Int}(c0:3/2≤c)(c1:c≤8/5)(h:NearI n (x*c⁻¹))(hz:z=x-(n:Rat)*c):-(4/5)≤z∧z≤4/5:=by
  have e:x=x*c⁻¹*c:=by rw [Rat.mul_assoc,Rat.inv_mul_cancel c (by grind),Rat.mul_one]
  have h1:=h.1
  have h2:=h.2.1
  have m1:=rmR h1 (show 0≤c by grind)
  have m2:=rmR h2 (show 0≤c by grind)
  rw [←e] at m1 m2
  constructor<;>grind
theorem narrow_facts2{v:Vx}{p:Int}(hv:v.P)(h:narrowB v p=true):0≤p∧rightV v=true∧v.lo.sgn=v.hi.sgn ∧
    (v.lo.sgn=0∨(lessD v.hi v.lo).zeroB=true∨((lessD v.hi v.lo).zeroB=false∧v.lo.sgn≠0∧p2 (-32768)≤(lessD v.hi v.lo).rv∧(if v.lo.sgn<0 then absD v.hi else absD v.lo).rv<p2 98304∧(lessD v.hi v.lo).rv*p2 p≤(if v.lo.sgn<0 then absD v.hi else absD v.lo).rv)):=by
  unfold narrowB at h
  simp only [Bool.and_eq_true] at h
  obtain ⟨p0,hr,hn⟩:=h
  have fv:=right_fits hr
  refine ⟨leI_true.1 p0,hr,?_⟩
  unfold narrowV at hn
  by_cases h1:v.lo.sgn=v.hi.sgn
  · refine ⟨h1,?_⟩
    rw [if_neg (by omega)] at hn
    by_cases h2:v.lo.sgn=0
    · exact .inl h2
    · rw [if_neg h2] at hn
      cases h3:(lessD v.hi v.lo).zeroB with
      | true=>exact .inr (.inl rfl)
      | false =>
        rw [h3,if_neg (by simp)] at hn
        have hw:=wide_ge hv hr h3
        have hl:(if v.lo.sgn<0 then absD v.hi else absD v.lo).rv<p2 98304:=by
          split
          · rw [rv_abs hv.2];exact fits_lt fv.2.1
          · rw [rv_abs hv.1];exact fits_lt fv.1
        refine .inr (.inr ⟨rfl,h2,hw,hl,?_⟩)
        rw [narrowX_eq lessD_p (by split<;>exact absD_p) hw hl,decide_eq_true_eq] at hn
        exact hn
  · rw [if_pos h1] at hn;simp at hn
theorem nar_of_narrow{v:Vx}{p:Int}(hv:v.P)(h:narrowB v p=true):VN (p2 (-p)) v:=by
  obtain ⟨p0,hr,sg,hc⟩:=narrow_facts2 hv h
  have le:=right_le hr
  have q:=p2_pos p
  have q':=p2_pos (-p)
  have i:=p2_neg p
  have s1:=sgn_rv hv.1
  have s2:=sgn_rv hv.2
  have wr:(lessD v.hi v.lo).rv=v.hi.rv-v.lo.rv:=rv_less hv.2 hv.1
  obtain ⟨al1,al2⟩:=rv_amt hv.1
  obtain ⟨ah1,ah2⟩:=rv_amt hv.2
  rcases s1 with ⟨a,b⟩|⟨a,b⟩|⟨a,b⟩
  · -- zero or above,by the kit's order of cases
    rcases s2 with ⟨c,d⟩|⟨c,d⟩|⟨c,d⟩<;>first | omega | skip
    all_goals first
      | exact .inl ⟨b,d⟩
      | (refine .inr (.inl ⟨b,le,?_⟩)
         rcases hc with hc | hc | ⟨_,_,_,_,hc⟩
         · omega
         · have:=(zeroB_rv lessD_p).1 hc
           have:=rmN (rlL q') (rlL b)
           grind
         · rw [if_neg (by omega),rv_abs hv.1,←al1 (rlL b),wr] at hc
           have m:=rmL hc (rlL q')
           have e:p2 (-p)*((v.hi.rv-v.lo.rv)*p2 p)=v.hi.rv-v.lo.rv:=by rw [show p2 (-p)*((v.hi.rv-v.lo.rv)*p2 p)=(v.hi.rv-v.lo.rv)*(p2 (-p)*p2 p) by grind,i,Rat.mul_one]
           grind)
  · rcases s2 with ⟨c,d⟩|⟨c,d⟩|⟨c,d⟩<;>first | omega | skip
    all_goals first
      | exact .inl ⟨b,d⟩
      | (refine .inr (.inl ⟨b,le,?_⟩)
         rcases hc with hc | hc | ⟨_,_,_,_,hc⟩
         · omega
         · have:=(zeroB_rv lessD_p).1 hc
           have:=rmN (rlL q') (rlL b)
           grind
         · rw [if_neg (by omega),rv_abs hv.1,←al1 (rlL b),wr] at hc
           have m:=rmL hc (rlL q')
           have e:p2 (-p)*((v.hi.rv-v.lo.rv)*p2 p)=v.hi.rv-v.lo.rv:=by rw [show p2 (-p)*((v.hi.rv-v.lo.rv)*p2 p)=(v.hi.rv-v.lo.rv)*(p2 (-p)*p2 p) by grind,i,Rat.mul_one]
           grind)
  · rcases s2 with ⟨c,d⟩|⟨c,d⟩|⟨c,d⟩<;>first | omega | skip
    refine .inr (.inr ⟨by grind,by grind,?_⟩)
    rcases hc with hc | hc | ⟨_,_,_,_,hc⟩
    · omega
    · have:=(zeroB_rv lessD_p).1 hc
      have:=rmN (rlL q') (show 0≤-v.hi.rv by grind)
      grind
    · rw [if_pos (by omega),rv_abs hv.2,←ah2 (rlL d),wr] at hc
      have m:=rmL hc (rlL q')
      have e:p2 (-p)*((v.hi.rv-v.lo.rv)*p2 p)=v.hi.rv-v.lo.rv:=by rw [show p2 (-p)*((v.hi.rv-v.lo.rv)*p2 p)=(v.hi.rv-v.lo.rv)*(p2 (-p)*p2 p) by grind,i,Rat.mul_one]
      grind
theorem turn_half{η:Rat}{S C:Vx}{s c:Nat→Rat}(h:Half η S s)(g:Half η C c)(k:Int):Half η (turnP k (S,C)).1 (turS k (s,c)).1∧Half η (turnP k (S,C)).2 (turS k (s,c)).2:=by
  unfold turnP turS
  by_cases h1:k=1
  · rw [if_pos h1,if_pos h1];exact ⟨g,h.turn⟩
  · rw [if_neg h1,if_neg h1]
    by_cases h2:k=2
    · rw [if_pos h2,if_pos h2];exact ⟨h.turn,g.turn⟩
    · rw [if_neg h2,if_neg h2]
      by_cases h3:k=3
      · rw [if_pos h3,if_pos h3];exact ⟨g.turn,h⟩
      · rw [if_neg h3,if_neg h3];exact ⟨h,g⟩
theorem invS_e{n w:Int}(h:InvOk n w):1≤(invS n w true).e:=by
  obtain ⟨_,_,_,_,a,_,b,_⟩:=invR_bd h
  show 1≤(invR n w 0).e+(invR n w 1).e
  omega
theorem piF_pos{w:Int}(w0:32≤w)(w1:w≤65536):1≤(piF w).e:=by
  have a:=invS_e (n:=5) (w:=w) ⟨by decide,by decide,w0,w1⟩
  have b:=invS_e (n:=239) (w:=w) ⟨by decide,by decide,w0,w1⟩
  show 1≤(invS 5 w true).e*16+(invS 239 w true).e*4
  omega
theorem piR_pos{w:Int}:1≤(piR w).e∨(w<32∨65536<w):=by
  by_cases c:32≤w∧w≤65536
  · left
    have e:∀ n,InvOk n w→8≤(refS n w).e:=fun n h=>by
      have a:=(smR_e h 0 (refK n w+1)).1
      have b:=(smR_e h 1 (refK n w+1)).1
      show 8≤(SmT (refT n w) 0 (refK n w+1)).e+4+((SmT (refT n w) 1 (refK n w+1)).e+4)
      omega
    have a:=e 5 ⟨by decide,by decide,c.1,c.2⟩
    have b:=e 239 ⟨by decide,by decide,c.1,c.2⟩
    show 1≤(refS 5 w).e*16+(refS 239 w).e*4
    omega
  · right;omega
theorem ivF_lt{z:Fx}{w:Int}(a0:0≤z.a)(e1:1≤z.e):(ivF z w).lo.rv<(ivF z w).hi.rv:=by
  obtain ⟨r1,r2⟩:=ivF_rv (w:=w) a0 (show 0≤z.e by omega)
  rw [r1,r2]
  have c:(z.a:Rat)<((z.a+z.e:Int):Rat):=by exact_mod_cast (show z.a<z.a+z.e by omega)
  exact Rat.mul_lt_mul_of_pos_right c (p2_pos _)
theorem trim_lt{v:Vx}{p:Int}(hv:v.P)(hp:1≤p)(h:v.lo.rv<v.hi.rv):(trimV v p).lo.rv<(trimV v p).hi.rv:=by
  have a:=(trim_in2 hv hp (show InV v v.lo.rv from ⟨Rat.le_refl,rlL h⟩)).1
  have b:=(trim_in2 hv hp (show InV v v.hi.rv from ⟨rlL h,Rat.le_refl⟩)).2
  grind
theorem scale_lt{v:Vx}(hv:v.P)(h:v.lo.rv<v.hi.rv):(scaleV v (-1)).lo.rv<(scaleV v (-1)).hi.rv:=by
  show (shiftD v.lo (-1)).rv<(shiftD v.hi (-1)).rv
  rw [rv_shift hv.1,rv_shift hv.2]
  exact Rat.mul_lt_mul_of_pos_right h (p2_pos _)
theorem halfP_lt{w:Int}(w0:8≤w)(w1:w≤65000):(halfP w).lo.rv<(halfP w).hi.rv:=by
  obtain ⟨a0,e0,_,_⟩:=piF_e (w:=w+64) (by omega) (by omega)
  exact scale_lt (constPi_iv w0 w1).p (trim_lt (encPi_iv w0 w1).p (by omega) (ivF_lt a0 (piF_pos (by omega) (by omega))))
theorem refH_lt{w:Int}(w0:32≤w)(w1:w≤65536):(refH w).lo.rv<(refH w).hi.rv:=by
  obtain ⟨a0,e0,_,_⟩:=piR_e w0 w1
  exact scale_lt (refPi_iv w0 w1).p (ivF_lt a0 (by rcases piR_pos (w:=w) with h | h;exact h;omega))
theorem rest_zero{h:Vx}(hp:h.P)(hl:h.lo.rv<h.hi.rv){x:Dx}(hx:0≤x.m){w:Int}(hw:1≤w)(z1:(restW h x w).lo.rv=0)(z2:(restW h x w).hi.rv=0):x.rv=0:=by
  have a:=rest_any hp hx hw (show InV h h.lo.rv from ⟨Rat.le_refl,rlL hl⟩)
  have b:=rest_any hp hx hw (show InV h h.hi.rv from ⟨rlL hl,Rat.le_refl⟩)
  obtain ⟨a1,a2⟩:=a
  obtain ⟨b1,b2⟩:=b
  rw [z1] at a1 b1
  rw [z2] at a2 b2
  have e:(nI h x w:Rat)*(h.hi.rv-h.lo.rv)=0:=by grind
  have n0:(nI h x w:Rat)=0:=by
    rcases Rat.mul_eq_zero.1 e with k | k
    · exact k
    · exfalso;grind
  rw [n0] at a1 a2;grind
theorem vn_off{δ:Rat}{v:Vx}(h:VN δ v)(z:¬ (v.lo.rv=0∧v.hi.rv=0)):NarV δ v:=by
  rcases h with h | h
  · exact absurd h z
  · exact h
theorem nar_off{δ:Rat}{v:Vx}(h:NarV δ v):Off0 v:=by
  rcases h with h | h
  · exact .inl h.1
  · exact .inr (by have:=h.1;grind)
theorem quar_off{x:Dx}(hx:0≤x.m)(h0:x.rv≠0){p:Int}(h:(quarR x p).2.2=0):NarV (p2 (-p)) (quarR x p).2.1∧∃ w,8≤w∧w≤8192∧(quarR x p).2.1=restW (halfP w) (oneD x) w:=by
  have ho:(oneD x).rv≠0:=by rw [rv_one hx];exact h0
  rcases quar_cases x p with ⟨_,e⟩|⟨_,z,_⟩|⟨_,_,_,e⟩|⟨_,_,_,e⟩|⟨c,z,t,w,q⟩
  · rw [e] at h;cases h
  · exact absurd (rv_zero z) ho
  · rw [e] at h;cases h
  · rw [e] at h;cases h
  · have e:(quarR x p).2.1=restW (halfP w) (oneD x) w:=by rw [q.eq]
    have hf:=halfP_hf (w:=w) q.w0 (by have:=q.w1;omega)
    have rp:(restW (halfP w) (oneD x) w).P:=⟨cutD_p,cutD_p⟩
    have nb:narrowB (restW (halfP w) (oneD x) w) p=true:=by
      have c2:=c.2.1
      rw [narrowB,q.right,q.nar,leI_true.2 (show 0≤p by omega)];rfl
    refine ⟨?_,w,q.w0,q.w1,e⟩
    rw [e]
    exact vn_off (nar_of_narrow rp nb) fun z=>ho (rest_zero hf.p (halfP_lt q.w0 (by have:=q.w1;omega)) oneD_p (by have:=q.w0;omega) z.1 z.2)
theorem hqu_off{x:Dx}(hx:0≤x.m)(h0:x.rv≠0){p:Int}(p0:0≤p)(h:(hquR x p).2.2=0):NarV (p2 (-p)) (hquR x p).2.1:=by
  have hm:x.m≠0:=rv_ne h0
  unfold hquR at h ⊢
  by_cases c:faultQ x p≠0∨x.m=0
  · exfalso
    rw [if_pos c] at h
    rcases c with c | c
    · exact c h
    · exact hm c
  · rw [if_neg c] at h ⊢
    rcases hquL_spec (x:=x) (p:=p) 9 (max (topD (oneD x)) 0+p+64) (by omega) with e | ⟨w,w0,w1,k,e⟩
    · rw [e] at h;cases h
    · obtain ⟨_,nb,et⟩:=tryH_parts k
      rw [e,et]
      have hf:=refH_hf (w:=w) (by omega) (by omega)
      have rp:(restW (refH w) x w).P:=⟨cutD_p,cutD_p⟩
      exact vn_off (nar_of_narrow rp nb) fun z=>h0 (rest_zero hf.p (refH_lt (by omega) (by omega)) hx (by omega) z.1 z.2)
theorem rest_low{x:Dx}(hx:0≤x.m)(hb:x.Bd 1074 1024)(hi:inX x){w:Int}(w0:8≤w)(w1:w≤8192):(restW (halfP w) x w).Bd 8258 4096:=by
  have hf:=halfP_hf (w:=w) w0 (by omega)
  have cb:=halfP_bd (w:=w) w0 (by omega)
  obtain ⟨_,_,_,nb,_,_⟩:=half_sizes hf w0 (by omega) cb hx hi
  have np:0≤(nW (halfP w) x w).m:=nearD_p
  have tb:=Vx.Bd.times (p:=w+64) (pointV_p (nW (halfP w) x w)) hf.p (by omega) (nb.point np) cb
  exact (Vx.Bd.less (p:=w) (pointV_p x) (trimV_p (prodV (pointV (nW (halfP w) x w)) (halfP w)) (w+64)) (by omega) ((hb.point hx).mono (show (1074:Int)≤8258 by omega) (show (1024:Int)≤4094 by omega)) (tb.mono (by omega) (by omega))).mono (by omega) (by omega)
theorem bd_low{d:Dx}{L T:Int}(hd:0≤d.m)(hb:d.Bd L T)(h0:d.rv≠0):p2 (-L)≤(d.m:Rat)*p2 d.e:=by
  have m1:1≤d.m:=by have:=rv_ne h0;omega
  have a:((1:Int):Rat)≤(d.m:Rat):=by exact_mod_cast m1
  have e1:((1:Int):Rat)=1:=rfl
  rw [e1] at a
  have b:=p2_le hb.lo
  have m:=rmR a (rlL (p2_pos d.e))
  grind
theorem quar_amt{x:Dx}(hx:0≤x.m)(fx:OneF x)(hb:x.Bd 1074 1024)(hi:inX x)(h0:x.rv≠0){p:Int}(h:(quarR x p).2.2=0):p2 (-8258)≤(quarR x p).2.1.lo.rv∨p2 (-8258)≤-(quarR x p).2.1.hi.rv:=by
  obtain ⟨n,w,w0,w1,e⟩:=quar_off hx h0 h
  rw [e,oneD_id fx] at n ⊢
  have b:=rest_low hx hb hi w0 w1
  have rp:(restW (halfP w) x w).P:=⟨cutD_p,cutD_p⟩
  rcases n with n | n
  · left
    have:=bd_low rp.1 b.1 (by have:=n.1;grind)
    rw [←(rv_amt rp.1).1 (rlL n.1)] at this;exact this
  · right
    have:=bd_low rp.2 b.2 (by have:=n.1;grind)
    rw [←(rv_amt rp.2).2 (by have:=n.1;grind)] at this;exact this
theorem quar_both{x:Dx}(hx:0≤x.m)(fx:OneF x)(hb:x.Bd 1074 1024)(hi:inX x)(h0:x.rv≠0){p:Int}(p0:8≤p)(p1:p≤2064)(h:(quarR x (p+32)).2.2=0)(s1:small1 (quarR x (p+32)).2.1.lo)(s2:small1 (quarR x (p+32)).2.1.hi)(rr:rightV (quarR x (p+32)).2.1=true)(rq:(quarR x (p+32)).2.1.P) :
    ∃ S C,bothR (quarR x (p+32)).2.1 (p+24)=((S,C),0)∧VM (p2 (-19-p)) (p2 (-8263)) (p2 5) S∧PairOk (quarR x (p+32)).2.1 (p2 (-19-p)) S C:=by
  obtain ⟨n,_⟩:=quar_off hx h0 h
  have am:=quar_amt hx fx hb hi h0 h
  have f:=right_fits rr
  have F1:=fault_of (p:=p+24) rq.1 f.1 s1 (by omega) (by omega)
  have F2:=fault_of (p:=p+24) rq.2 f.2.1 s2 (by omega) (by omega)
  have d0:=rlL (p2_pos (-(p+32)))
  have dd:p2 (-(p+32))≤p2 (-(p+24)):=p2_le (by omega)
  obtain ⟨r,v⟩:=pair_vm rq F1 F2 n am (by decide) d0 dd
  have e5:p2 (5-(p+24))=p2 (-19-p):=by congr 1;omega
  rw [e5] at v
  rcases pair_ok rq rr F1 F2 (.inr n) d0 dd with ⟨_,k⟩|⟨e,K⟩
  · rw [r] at k;cases k
  · rw [e5] at K
    exact ⟨_,_,e,v,K⟩
def Ab(x K:Rat):Prop:=-K≤x∧x≤K
theorem sqN(z:Rat):0≤z*z:=by
  rcases (show 0≤z∨0≤-z by grind) with q | q
  · exact rmN q q
  · have:=rmN q q;grind
theorem Ab.mono{x K L:Rat}(h:Ab x K)(k:K≤L):Ab x L:=⟨by have:=h.1;grind,by have:=h.2;grind⟩
theorem Ab.nonneg{x K:Rat}(h:Ab x K):0≤K:=by have:=h.1;have:=h.2;grind
theorem Ab.add{x y K L:Rat}(h:Ab x K)(k:Ab y L):Ab (x+y) (K+L):=by
  obtain ⟨a,b⟩:=h;obtain ⟨c,d⟩:=k;exact ⟨by grind,by grind⟩
theorem Ab.neg{x K:Rat}(h:Ab x K):Ab (-x) K:=by obtain ⟨a,b⟩:=h;exact ⟨by grind,by grind⟩
theorem Ab.sub{x y K L:Rat}(h:Ab x K)(k:Ab y L):Ab (x-y) (K+L):=by
  obtain ⟨a,b⟩:=h;obtain ⟨c,d⟩:=k;exact ⟨by grind,by grind⟩
theorem Ab.mul{x y K L:Rat}(h:Ab x K)(k:Ab y L):Ab (x*y) (K*L):=by
  have n:=h.nonneg
  obtain ⟨a,b⟩:=h;obtain ⟨c,d⟩:=k
  have r1:=rmN (show 0≤K-x by grind) (show 0≤L-y by grind)
  have r2:=rmN (show 0≤K+x by grind) (show 0≤L+y by grind)
  have r3:=rmN (show 0≤K-x by grind) (show 0≤L+y by grind)
  have r4:=rmN (show 0≤K+x by grind) (show 0≤L-y by grind)
  exact ⟨by grind,by grind⟩
theorem Ab.zero{K:Rat}(h:0≤K):Ab 0 K:=⟨by grind,h⟩
theorem Ab.of_mul{c z K:Rat}(hc:0<c)(h:Ab (c*z) (c*K)):Ab z K:=by
  obtain ⟨a,b⟩:=h
  refine ⟨Rat.not_lt.1 fun k=>?_,Rat.not_lt.1 fun k=>?_⟩
  · have:=Rat.mul_pos hc (show 0 < -K-z by grind);grind
  · have:=Rat.mul_pos hc (show 0<z-K by grind);grind
theorem Ab.alt{x K:Rat}(h:Ab x K)(i:Nat):Ab (alt i*x) K:=by
  rcases alt_one i with e | e<;>rw [e]
  · rw [Rat.one_mul];exact h
  · have:=h.neg;rwa [show -1*x = -x by grind]
theorem Ab.congr{x y K:Rat}(h:Ab x K)(e:y=x):Ab y K:=e ▸ h
theorem Ab.sq{x K:Rat}(h:Ab x K):x*x≤K*K:=(h.mul h).2
theorem sum_ab{B:Rat}{b:Nat→Rat}(h:∀ i,Ab (b i) (B*hf i))(n:Nat):Ab (sumTo b n) (2*B):=by
  have:=Dec.tail_le (B:=B) (b:=b) h (Nat.zero_le n)
  rw [hf_zero] at this
  have e:sumTo b 0=0:=rfl
  rw [e] at this
  exact ⟨by grind,by grind⟩
theorem nat_pos2(j:Nat):(0:Rat)<((j+2:Nat):Rat):=nat_pos (j+1)
theorem cast_add2(j:Nat):((j+2:Nat):Rat)=(j:Rat)+2:=by
  have:=Rat.natCast_add j 2
  exact this
theorem cast_nonneg(j:Nat):(0:Rat)≤(j:Rat):=by exact_mod_cast Nat.zero_le j
theorem hf_nonneg(k:Nat):0≤hf k:=rlL (hf_pos k)
theorem dpw_ab{t:Rat}(h:Ab t 1):∀ k,Ab (dpw t k) (2*hf k)
  | 0=>by rw [hf_zero];exact ⟨by show _≤(1:Rat);grind,by show (1:Rat)≤_;grind⟩
  | 1=>by
    have e:dpw t 1=t:=by
      have h:=dpw_succ t 0
      have e:((0+1:Nat):Rat)=1:=rfl
      rw [e] at h
      have:dpw t 0=1:=rfl
      rw [this] at h
      have h2:dpw t (0+1)=dpw t 1:=rfl
      grind
    rw [e,hf_one];exact h
  | k+2=>by
    have ih:=dpw_ab h (k+1)
    have s:=dpw_succ t (k+1)
    refine Ab.of_mul (nat_pos2 k) ?_
    have m:=h.mul ih
    rw [Rat.one_mul,←s] at m
    refine m.mono ?_
    have e:=hf_succ (k+1)
    have c:=cast_add2 k
    have p:=rmN (cast_nonneg k) (hf_nonneg (k+1+1))
    show 2*hf (k+1)≤((k+2:Nat):Rat)*(2*hf (k+1+1))
    rw [c];grind
def dE(a d:Rat)(j:Nat):Rat:=dpw (a+d) (j+1)-dpw a (j+1)-d*dpw a j
theorem dE_succ(a d:Rat)(j:Nat):((j+2:Nat):Rat)*dE a d (j+1)=d*d*dpw a j+(a+d)*dE a d j:=by
  have s1:=dpw_succ (a+d) (j+1)
  have s2:=dpw_succ a (j+1)
  have s3:=dpw_succ a j
  have c2:=cast_add2 j
  have c1:((j+1:Nat):Rat)=(j:Rat)+1:=Rat.natCast_add j 1
  have c3:((j+1+1:Nat):Rat)=(j:Rat)+2:=c2
  rw [c3] at s1 s2
  rw [c1] at s3
  rw [c2]
  unfold dE
  generalize dpw (a+d) (j+1+1)=X at *
  generalize dpw a (j+1+1)=Y at *
  generalize dpw (a+d) (j+1)=Z at *
  generalize dpw a (j+1)=U at *
  generalize dpw a j=V at *
  grind
theorem dE_ab{a d:Rat}(ha:Ab a 1)(hd:Ab (a+d) 1):∀ j,Ab (dE a d j) (4*(d*d)*hf j)
  | 0=>by
    have e:∀ t:Rat,dpw t 1=t:=fun t=>by
      have h:=dpw_succ t 0
      have e:((0+1:Nat):Rat)=1:=rfl
      rw [e] at h
      have:dpw t 0=1:=rfl
      rw [this] at h
      have h2:dpw t (0+1)=dpw t 1:=rfl
      grind
    have z:dE a d 0=0:=by
      show dpw (a+d) 1-dpw a 1-d*1=0
      rw [e,e];grind
    rw [z,hf_zero]
    have:=sqN d
    exact Ab.zero (by grind)
  | j+1=>by
    have ih:=dE_ab ha hd j
    have s:=dE_succ a d j
    refine Ab.of_mul (nat_pos2 j) ?_
    rw [s]
    have q:=sqN d
    have dd:Ab (d*d) (d*d):=⟨by grind,by grind⟩
    have m1:=dd.mul (dpw_ab ha j)
    have m2:=hd.mul ih
    have e:=hf_succ j
    have c:=cast_add2 j
    cases j with
    | zero =>
      have z:dE a d 0=0:=by
        have:=ih
        have e:∀ t:Rat,dpw t 1=t:=fun t=>by
          have h:=dpw_succ t 0
          have e:((0+1:Nat):Rat)=1:=rfl
          rw [e] at h
          have:dpw t 0=1:=rfl
          rw [this] at h
          have h2:dpw t (0+1)=dpw t 1:=rfl
          grind
        show dpw (a+d) 1-dpw a 1-d*1=0
        rw [e,e];grind
      rw [z]
      rw [hf_zero] at m1
      have z2:(a+d)*0=0:=Rat.mul_zero _
      rw [z2]
      refine (m1.add (Ab.zero (K:=0) Rat.le_refl)).mono ?_
      have p:=rmN q (hf_nonneg 1)
      have h1:=hf_one
      show d*d*(2*1)+0≤((0+2:Nat):Rat)*(4*(d*d)*hf (0+1))
      have c0:((0+2:Nat):Rat)=2:=rfl
      rw [c0]
      have e2:2*(4*(d*d)*hf (0+1))=4*(d*d)*(2*hf 1):=by grind
      rw [e2,h1];grind
    | succ i =>
      refine (m1.add m2).mono ?_
      rw [c]
      have p:=rmN q (hf_nonneg (i+1+1))
      have p2:=rmN (cast_nonneg i) p
      have c1:((i+1:Nat):Rat)=(i:Rat)+1:=Rat.natCast_add i 1
      rw [c1,e]
      grind
theorem hf_mono2(i:Nat):hf (2*i)≤hf i:=hf_le (by omega)
theorem hf_mono3(i:Nat):hf (2*i+1)≤hf i:=hf_le (by omega)
theorem sq_bd{d:Rat}{i j:Nat}(h:i≤j):4*(d*d)*hf j≤4*(d*d)*hf i:=by
  have:=rmL (hf_le h) (sqN d);grind
theorem sin_step{a d:Rat}(ha:Ab a 1)(hd:Ab (a+d) 1)(n:Nat):Ab (sinS (a+d) n-sinS a n-d*cosS a n) (8*(d*d)):=by
  have e:sinS (a+d) n-sinS a n-d*cosS a n=sumTo (fun i=>alt i*dE a d (2*i)) n:=by
    induction n with
    | zero=>show (0:Rat)-0-d*0=0;grind
    | succ n ih =>
      show (sinS (a+d) n+sinT (a+d) n)-(sinS a n+sinT a n)-d*(cosS a n+cosT a n)=sumTo _ n+_
      rw [←ih];unfold sinT cosT dE;grind
  rw [e]
  exact (sum_ab (B:=4*(d*d)) (fun i=>((dE_ab ha hd (2*i)).alt i).mono (sq_bd (by omega))) n).mono (by grind)
theorem cos_step{a d:Rat}(ha:Ab a 1)(hd:Ab (a+d) 1)(n:Nat):Ab (cosS (a+d) n-cosS a n+d*sinS a n) (8*(d*d)+4*hf n):=by
  have e:∀ n,cosS (a+d) (n+1)-cosS a (n+1)+d*sinS a n=sumTo (fun i=>-1*(alt i*dE a d (2*i+1))) n:=by
    intro n
    induction n with
    | zero=>show ((0:Rat)+1*1)-(0+1*1)+d*0=0;grind
    | succ n ih =>
      show (cosS (a+d) (n+1)+cosT (a+d) (n+1))-(cosS a (n+1)+cosT a (n+1))+d*(sinS a n+sinT a n)=sumTo _ n+_
      rw [←ih];unfold sinT cosT dE;rw [alt_succ,show 2*(n+1)=2*n+1+1 by omega];grind
  have b:=sum_ab (B:=4*(d*d)) (b:=fun i=>-1*(alt i*dE a d (2*i+1))) (fun i=>by
    have:=(((dE_ab ha hd (2*i+1)).alt i).mono (sq_bd (d:=d) (show i≤2*i+1 by omega))).neg
    exact this.congr (by grind)) n
  rw [←e] at b
  have t1:=(dpw_ab hd (2*n)).alt n
  have t2:=(dpw_ab ha (2*n)).alt n
  have h:=hf_mono2 n
  have u1:cosS (a+d) (n+1)=cosS (a+d) n+alt n*dpw (a+d) (2*n):=rfl
  have u2:cosS a (n+1)=cosS a n+alt n*dpw a (2*n):=rfl
  rw [u1,u2] at b
  refine ((b.sub (t1.sub t2)).congr (by grind)).mono (by grind)
theorem sin_ab{a:Rat}(ha:Ab a 1)(n:Nat):Ab (sinS a n) 4 :=
  (sum_ab (B:=2) (fun i=>((dpw_ab ha (2*i+1)).alt i).mono (by have:=hf_mono3 i;grind)) n).mono (by grind)
theorem cos_ab{a:Rat}(ha:Ab a 1)(n:Nat):Ab (cosS a n) 4 :=
  (sum_ab (B:=2) (fun i=>((dpw_ab ha (2*i)).alt i).mono (by have:=hf_mono2 i;grind)) n).mono (by grind)
def pw(x:Rat):Nat→Rat
  | 0=>1
  | k+1=>x*pw x k
theorem one_le_cast(n:Nat):(1:Rat)≤((n+1:Nat):Rat):=by
  have c1:((n+1:Nat):Rat)=(n:Rat)+1:=Rat.natCast_add n 1
  have:=cast_nonneg n
  rw [c1];grind
theorem of_nhf{K e:Rat}(K0:0≤K){n:Nat}(h:((n+1:Nat):Rat)*(K*hf (n+1))≤e):K*hf (n+1)≤e:=by
  have p:=rmN K0 (hf_nonneg (n+1))
  have:=rmR (one_le_cast n) p
  grind
def sinQ(a:Nat→Rat)(n:Nat):Rat:=sinS (a n) n
def cosQ(a:Nat→Rat)(n:Nat):Rat:=cosS (a n) n
def AbS(a:Nat→Rat)(K:Rat):Prop:=∀ n,Ab (a n) K
section
variable {a b:Nat→Rat} (ha:AbS a 2) (hb:AbS b 2)
include ha hb
end
theorem sin_lip{a c δ:Rat}(ha:Ab a 1)(hc:Ab c 1)(hd:Ab (a-c) δ)(d1:δ≤1)(n:Nat):Ab (sinS a n-sinS c n) (12*δ):=by
  have s:=sin_step hc (d:=a-c) (by rw [show c+(a-c)=a by grind];exact ha) n
  rw [show c+(a-c)=a by grind] at s
  have q:=hd.sq
  have m:=hd.mul (cos_ab hc n)
  have d0:=hd.nonneg
  have dd:=rmL d1 d0
  exact ((s.add m).congr (by grind)).mono (by grind)
theorem cos_lip{a c δ:Rat}(ha:Ab a 1)(hc:Ab c 1)(hd:Ab (a-c) δ)(d1:δ≤1)(n:Nat):Ab (cosS a n-cosS c n) (12*δ+4*hf n):=by
  have s:=cos_step hc (d:=a-c) (by rw [show c+(a-c)=a by grind];exact ha) n
  rw [show c+(a-c)=a by grind] at s
  have q:=hd.sq
  have m:=hd.mul (sin_ab hc n)
  have d0:=hd.nonneg
  have dd:=rmL d1 d0
  exact ((s.sub m).congr (by grind)).mono (by grind)
theorem tail_ab{b:Nat→Rat}(h:∀ i,Ab (b i) (2*hf i)){n m:Nat}(k:n≤m):Ab (sumTo b m-sumTo b n) (4*hf n):=by
  have:=Dec.tail_le (B:=2) (b:=b) h k
  exact ⟨by grind,by grind⟩
theorem sin_tail{a:Rat}(ha:Ab a 1){n m:Nat}(k:n≤m):Ab (sinS a m-sinS a n) (4*hf n) :=
  tail_ab (fun i=>((dpw_ab ha (2*i+1)).alt i).mono (by have:=hf_mono3 i;grind)) k
theorem cos_tail{a:Rat}(ha:Ab a 1){n m:Nat}(k:n≤m):Ab (cosS a m-cosS a n) (4*hf n) :=
  tail_ab (fun i=>((dpw_ab ha (2*i)).alt i).mono (by have:=hf_mono2 i;grind)) k
theorem hf_small{e:Rat}(he:0<e):∃ N,∀ n,N≤n→16*hf n≤e:=by
  obtain ⟨M,hM⟩:=nhf_small 16 e he
  refine ⟨M+1,fun n hn=>?_⟩
  obtain ⟨m,rfl⟩:∃ m,n=m+1:=⟨n-1,by omega⟩
  exact of_nhf (by decide +kernel) (hM (m+1) (by omega))
theorem enc_along{f:Rat→Nat→Rat}(lip:∀ a c δ:Rat,Ab a 1→Ab c 1→Ab (a-c) δ→δ≤1→∀ n,Ab (f a n-f c n) (12*δ+4*hf n))(tail:∀ a:Rat,Ab a 1→∀ n m,n≤m→Ab (f a m-f a n) (4*hf n))
    {a:Nat→Rat} {lo hi L H:Rat} (ha:Enc a lo hi) (l:-(9/10)≤lo) (h:hi≤9/10) (hs:∀ x,lo≤x→x≤hi→Enc (f x) L H):Enc (fun n=>f (a n) n) L H:=fun e he=>by
  have le:=ha.self
  obtain ⟨δ,d0,d1,d2⟩:∃ δ:Rat,0<δ∧δ≤1/10∧48*δ≤e:=by
    by_cases c:e≤1
    · exact ⟨e/48,by grind,by grind,by grind⟩
    · exact ⟨1/48,by grind,by grind,by grind⟩
  obtain ⟨N,hN⟩:=ha δ d0
  obtain ⟨M,hM⟩:=hf_small (e:=e/2) (by grind)
  refine ⟨max N M,fun n hn=>?_⟩
  have h1:=hN n (by omega)
  have h2:=hM n (by omega)
  obtain ⟨c,c1,c2,c3⟩:∃ c,lo≤c∧c≤hi∧Ab (a n-c) δ:=by
    by_cases k:a n<lo
    · exact ⟨lo,Rat.le_refl,le,by grind,by grind⟩
    · by_cases k':hi<a n
      · exact ⟨hi,le,Rat.le_refl,by grind,by grind⟩
      · exact ⟨a n,by grind,by grind,by grind,by grind⟩
  have cb:Ab c 1:=⟨by grind,by grind⟩
  have ab:Ab (a n) 1:=⟨by grind,by grind⟩
  obtain ⟨K,hK⟩:=hs c c1 c2 (e/4) (by grind)
  have t:=tail c cb n (max n K) (by omega)
  have u:=hK (max n K) (by omega)
  have v:=lip (a n) c δ ab cb c3 (by grind) n
  obtain ⟨t1,t2⟩:=t
  obtain ⟨v1,v2⟩:=v
  exact ⟨by grind,by grind⟩
theorem enc_sinQ{a:Nat→Rat}{lo hi L H:Rat}(ha:Enc a lo hi)(l:-(9/10)≤lo)(h:hi≤9/10)(hs:∀ x,lo≤x→x≤hi→Enc (sinS x) L H):Enc (sinQ a) L H :=
  enc_along (f:=sinS) (fun a c δ ha hc hd d1 n=>(sin_lip ha hc hd d1 n).mono (by have:=hf_nonneg n;grind)) (fun _ ha _ _ k=>sin_tail ha k) ha l h hs
theorem enc_cosQ{a:Nat→Rat}{lo hi L H:Rat}(ha:Enc a lo hi)(l:-(9/10)≤lo)(h:hi≤9/10)(hs:∀ x,lo≤x→x≤hi→Enc (cosS x) L H):Enc (cosQ a) L H :=
  enc_along (f:=cosS) (fun a c δ ha hc hd d1 n=>cos_lip ha hc hd d1 n) (fun _ ha _ _ k=>cos_tail ha k) ha l h hs
def EvB(a:Nat→Rat)(K:Rat):Prop:=∃ N,∀ n,N≤n→Ab (a n) K
section
variable {a b:Nat→Rat} (ha:EvB a 2) (hb:EvB b 2)
include ha hb
end
def cu(n:Int):Rat:=if n % 4=0 then 1 else if n % 4=2 then -1 else 0
def su(n:Int):Rat:=if n % 4=1 then 1 else if n % 4=3 then -1 else 0
theorem enc_turned{S C:Vx}(hS:S.P)(hC:C.P){s c:Nat→Rat}(h:Enc s S.lo.rv S.hi.rv)(k:Enc c C.lo.rv C.hi.rv)(n:Int):Enc (turS n (s,c)).1 (turnP n (S,C)).1.lo.rv (turnP n (S,C)).1.hi.rv∧Enc (turS n (s,c)).2 (turnP n (S,C)).2.lo.rv (turnP n (S,C)).2.hi.rv:=by
  unfold turS turnP
  split
  · exact ⟨k,h.turn hS⟩
  split
  · exact ⟨h.turn hS,k.turn hC⟩
  split
  · exact ⟨k.turn hC,h⟩
  · exact ⟨h,k⟩
theorem enc_less{s t:Nat→Rat}{v u:Vx}{w:Int}(hv:v.P)(hu:u.P)(hw:1≤w)(h:Enc s v.lo.rv v.hi.rv)(k:Enc t u.lo.rv u.hi.rv):Enc (fun n=>s n-t n) (lessV v u w).lo.rv (lessV v u w).hi.rv:=by
  obtain ⟨l,g⟩:=less_best (p:=w) hv hu hw
  have a:=h.add k.neg
  have e:(fun n=>s n + -t n)=fun n=>s n-t n:=funext fun n=>(Rat.sub_eq_add_neg _ _).symm
  rw [e] at a
  exact a.wide (by have:=l.2.1;grind) (by have:=g.2.1;grind)
theorem bv_word{a:Int}(h0:0≤a)(h1:a<18446744073709551616):(BitVec.ofInt 64 a).toNat=a.toNat:=by
  have e:((2^64:Nat):Int)=18446744073709551616:=by decide
  rw [BitVec.toNat_ofInt,e,Int.emod_eq_of_lt h0 h1]
theorem and_pow{a:Int}(h0:0≤a)(h1:a<18446744073709551616){m:Int}(k:Nat)(hk:k≤63)(hm:(BitVec.ofInt 64 m).toNat=2^k-1):bitsI .and .u64 a m=a % ((2^k:Nat):Int):=by
  have key:(BitVec.ofInt 64 a &&& BitVec.ofInt 64 m).toNat=a.toNat % 2^k:=by
    rw [BitVec.toNat_and,bv_word h0 h1,hm,Nat.and_two_pow_sub_one_eq_mod]
  show IntKind.u64.wrap ((BitVec.ofInt 64 a &&& BitVec.ofInt 64 m).toNat:Nat)=_
  rw [key,IntKind.wrap_u64]
  have l:=Nat.mod_lt a.toNat (Nat.two_pow_pos k)
  have l2:2^k≤2^63:=Nat.pow_le_pow_right (by decide) hk
  have c:a % ((2^k:Nat):Int)=((a.toNat % 2^k:Nat):Int):=by rw [Int.natCast_emod,Int.toNat_of_nonneg h0]
  rw [c]
  generalize a.toNat % 2^k=r at *
  omega
theorem or_bit{a:Int}(h0:0≤a)(h1:a<4503599627370496):bitsI .or .u64 a 4503599627370496=a+4503599627370496:=by
  have hm:(BitVec.ofInt 64 4503599627370496).toNat=2^52:=by decide
  have key:(BitVec.ofInt 64 a ||| BitVec.ofInt 64 4503599627370496).toNat=2^52+a.toNat:=by
    rw [BitVec.toNat_or,bv_word h0 (by omega),hm,Nat.or_comm]
    have:=Nat.two_pow_add_eq_or_of_lt (i:=52) (b:=a.toNat) (by omega) 1
    simpa using this.symm
  show IntKind.u64.wrap ((BitVec.ofInt 64 a ||| BitVec.ofInt 64 4503599627370496).toNat:Nat)=_
  rw [key,IntKind.wrap_u64]
  omega
theorem shr_52(x:Int):shrI .u64 x 52=x/4503599627370496:=by
  show x.fdiv (2^(min (52:Int).toNat 64))=_
  rw [Int.fdiv_eq_ediv_of_nonneg _ (by decide)];rfl
theorem shr_63(x:Int):shrI .u64 x 63=x/9223372036854775808:=by
  show x.fdiv (2^(min (63:Int).toNat 64))=_
  rw [Int.fdiv_eq_ediv_of_nonneg _ (by decide)];rfl
def fexp(x:Int):Int:=x/4503599627370496 % 2048
def ffr(x:Int):Int:=x % 4503599627370496
def fneg(x:Int):Bool:=decide (9223372036854775808≤x)
def fltM(x:Int):Int:=if fexp x=0 then ffr x else ffr x+4503599627370496
def fltE(x:Int):Int:=if fexp x=0 then -1074 else fexp x-1075
def fltD(x:Int):Dx:=mkD (fneg x) (fltM x) (fltE x)
def fromR(x:Int):Dx×Int:=if fexp x=2047 then (⟨false,[],0⟩,5) else (fltD x,0)
def tyFd:TyRow:=⟨68,3,true,[.bool false,.int .i64 0,.int .u64 0],.struct [(0,1,false),(1,1,false),(2,1,false)]⟩
def tysF:List TyRow:=tyFd :: tysU
theorem tysF_ok:RowsOk Tryz.prog tysF:=⟨by kernel_rfl,tysU_ok⟩
theorem dFrom_vc(x:Int)(Q:Tv→Prop):execF ⟨tysF,sRaw8⟩ (fun _=>none) 0 Tryz.f44 [.one (.int .u64 x)] Q=((0:Int)≤52∧br (eqI (IntKind.wrap IntKind.i64 (bitsI BinOp.and IntKind.u64 (shrI IntKind.u64 x 52) 2047)) 2047) (Q (Tv.tup [Sv.agg [At.bool false,At.words true [],At.int .i64 0],Sv.one (At.int .i64 5)])) (br (eqI (IntKind.wrap IntKind.i64 (bitsI BinOp.and IntKind.u64 (shrI IntKind.u64 x 52) 2047)) 0) ((0:Int)≤63∧Words [bitsI BinOp.and IntKind.u64 x 4503599627370495]∧inR ((1:Int)-1075)∧((-4611686018427387904:Int)≤1-1075∧(1:Int)-1075≤4611686018427387904)∧Q (Tv.tup [Sv.agg (dyL true (mkD (eqI (shrI IntKind.u64 x 63) 1) (val [bitsI BinOp.and IntKind.u64 x 4503599627370495]) ((1:Int)-1075))),Sv.one (At.int .i64 0)])) ((0:Int)≤63∧Words [bitsI BinOp.or IntKind.u64 (bitsI BinOp.and IntKind.u64 x 4503599627370495) 4503599627370496]∧inR (IntKind.wrap IntKind.i64 (bitsI BinOp.and IntKind.u64 (shrI IntKind.u64 x 52) 2047)-1075)∧((-4611686018427387904:Int)≤IntKind.wrap IntKind.i64 (bitsI BinOp.and IntKind.u64 (shrI IntKind.u64 x 52) 2047)-1075∧IntKind.wrap IntKind.i64 (bitsI BinOp.and IntKind.u64 (shrI IntKind.u64 x 52) 2047)-1075≤4611686018427387904)∧Q (Tv.tup [Sv.agg (dyL true (mkD (eqI (shrI IntKind.u64 x 63) 1) (val [bitsI BinOp.or IntKind.u64 (bitsI BinOp.and IntKind.u64 x 4503599627370495) 4503599627370496]) (IntKind.wrap IntKind.i64 (bitsI BinOp.and IntKind.u64 (shrI IntKind.u64 x 52) 2047)-1075))),Sv.one (At.int .i64 0)])))):=by kernel_rfl
theorem fexp_bd(x:Int):0≤fexp x∧fexp x<2048:=by unfold fexp;omega
theorem ffr_bd(x:Int):0≤ffr x∧ffr x<4503599627370496:=by unfold ffr;omega
theorem val_one1(n:Int):val [n]=n:=by rw [val_cons];simp [val]
theorem words_one{n:Int}(h0:0≤n)(h1:n<18446744073709551616):Words [n]:=fun x hx=>by
  rcases List.mem_singleton.1 hx with rfl;exact ⟨h0,h1⟩
def dFrom:Spec:=specK [.i .u64] fun (x:Int)=>(some (Word x),rdT (fromR x))
theorem dFrom_ok:SpecOk Tryz.prog 44 dFrom :=
  specKW_ok (envOk tysF_ok sRaw8_ok) mixed Tryz.func44 rfl (by decide) (by decide) fun (x:Int) _ hp=>⟨fun _=>none,0,by
    obtain ⟨h0,h1⟩:0≤x∧x<18446744073709551616:=hp
    show execF _ _ _ _ _ (fun t=>t=rdT (fromR x)∨fgT t=rdT (fromR x))
    have e1:IntKind.wrap .i64 (bitsI .and .u64 (shrI .u64 x 52) 2047)=fexp x:=by
      rw [shr_52,and_pow (k:=11) (by omega) (by omega) (by decide) (by decide),IntKind.wrap_i64]
      unfold fexp;omega
    have e2:bitsI .and .u64 x 4503599627370495=ffr x:=and_pow (k:=52) h0 h1 (by decide) (by decide)
    obtain ⟨b0,b1⟩:=ffr_bd x
    obtain ⟨c0,c1⟩:=fexp_bd x
    have e3:bitsI .or .u64 (ffr x) 4503599627370496=ffr x+4503599627370496:=or_bit b0 b1
    have e4:eqI (shrI .u64 x 63) 1=fneg x:=by
      rw [shr_63]
      unfold fneg eqI
      by_cases c:9223372036854775808≤x
      · rw [decide_eq_true c,show x/9223372036854775808=1 by omega];rfl
      · rw [decide_eq_false c,show x/9223372036854775808=0 by omega];rfl
    refine (dFrom_vc x _).mpr ?_
    rw [e1,e2,e3,e4,val_one1,val_one1]
    refine ⟨by omega,br_intro (fun h=>.inr ?_) fun h=>br_intro (fun k=>⟨by omega,words_one b0 (by omega),⟨by omega,by omega⟩,⟨by omega,by omega⟩,.inr ?_⟩) fun k=>⟨by omega,words_one (by omega) (by omega),⟨by omega,by omega⟩,⟨by omega,by omega⟩,.inr ?_⟩⟩
    · rw [fromR,if_pos (eqI_true.1 h)];rfl
    · rw [fromR,if_neg (eqI_false.1 h),fltD,fltM,fltE,if_pos (eqI_true.1 k),if_pos (eqI_true.1 k)];rfl
    · rw [fromR,if_neg (eqI_false.1 h),fltD,fltM,fltE,if_neg (eqI_false.1 k),if_neg (eqI_false.1 k)];rfl⟩
def bothTr(x:Dx)(p:Int):(Vx×Vx)×Int:=if (quarR x (p+32)).2.2=0 then (if (bothR (quarR x (p+32)).2.1 (p+24)).2=0 then (turnP (quarR x (p+32)).1 (bothR (quarR x (p+32)).2.1 (p+24)).1,0) else ((zeroIv,zeroIv),(bothR (quarR x (p+32)).2.1 (p+24)).2)) else ((zeroIv,zeroIv),(quarR x (p+32)).2.2)
def bothHr(x:Dx)(p:Int):(Vx×Vx)×Int:=if x.fitsB=true∧8≤p∧p≤2048 then (if (hquR x (p+24)).2.2=0 then (turnP (hquR x (p+24)).1 (sinesH (hquR x (p+24)).2.1 (p+24),cosinesH (hquR x (p+24)).2.1 (p+24)),0) else ((zeroIv,zeroIv),(hquR x (p+24)).2.2)) else ((zeroIv,zeroIv),2)
def rhS(x:Rat)(n:Int)(i:Nat):Rat:=x-(n:Rat)*(1/2*piS i)
structure QNum (x:Dx) (p:Int) (R:Vx) (n:Int):Prop where
  enc:Enc (rhS x.rv n) R.lo.rv R.hi.rv
  q:R.P
  v:VN (p2 (-p)) R
  r:rightV R=true
  lo:-(9/10)≤R.lo.rv
  hi:R.hi.rv≤9/10
  near:x.rv=0∧n=0∨∃ w,8≤w∧w≤8192∧∀ c,InV (halfP w) c→NearI n (x.rv*c⁻¹)
theorem half_enc{d:Rat}{h:Vx}(k:HfIv d h):Enc (fun i=>1/2*piS i) h.lo.rv h.hi.rv:=(k.enc.scale (c:=1/2) (by decide +kernel)).wide (by grind) (by grind)
theorem rest_enc{h:Vx}{d:Rat}(k:HfIv d h){x:Dx}(hx:0≤x.m){w:Int}(hw:1≤w):Enc (rhS x.rv (nI h x w)) (restW h x w).lo.rv (restW h x w).hi.rv:=by
  have np:0≤(nW h x w).m:=nearD_p
  have a:=enc_point hx
  have b:=enc_point np
  have c:=enc_times (p:=w+64) (pointV_p (nW h x w)) k.p (by omega) b (half_enc k)
  have e:=enc_less (w:=w) (pointV_p x) (trimV_p (prodV (pointV (nW h x w)) h) (w+64)) hw a c
  have en:(nW h x w).rv=(nI h x w:Rat):=(wholeS_rv (d:=nW h x w) nearD_e).symm
  rw [en] at e
  exact e
theorem vn_wide{p:Int}{R:Vx}{z:Rat}(v:VN (p2 (-p)) R)(hp:8≤p)(i:InV R z)(z1:-(4/5)≤z)(z2:z≤4/5):-(9/10)≤R.lo.rv∧R.hi.rv≤9/10:=by
  have e:p2 (-p)≤1/16:=by
    have:=p2_le (show -p≤-4 by omega)
    have e:p2 (-4)=1/16:=by decide +kernel
    rw [e] at this;exact this
  obtain ⟨i1,i2⟩:=i
  rcases v with ⟨a,b⟩|⟨a,b,c⟩|⟨a,b,c⟩
  · rw [a,b];exact ⟨by decide +kernel,by decide +kernel⟩
  · have m:=rmR e (rlL a)
    exact ⟨by grind,by grind⟩
  · have m:=rmR e (rlL a)
    exact ⟨by grind,by grind⟩
theorem quar_num{x:Dx}(hx:0≤x.m){p:Int}(h:(quarR x p).2.2=0):∃ n:Int,(quarR x p).1=n % 4∧QNum x p (quarR x p).2.1 n:=by
  have fy:OneF (oneD x):=oneD_f hx
  have ey:(oneD x).rv=x.rv:=rv_one hx
  have z0:zeroIv.lo.rv=0:=zero_rv
  have z1:zeroIv.hi.rv=0:=zero_rv
  have cq:=cq_of h
  rcases quar_cases x p with ⟨c,_⟩|⟨_,z,q⟩|⟨_,z,t,q⟩|⟨_,z,t,q⟩|⟨_,z,t,w,q⟩
  · exact absurd cq c
  · have x0:x.rv=0:=by rw [←ey];exact rv_zero z
    rw [q]
    refine ⟨0,rfl,?_,⟨Int.le_refl _,Int.le_refl _⟩,.inl ⟨z0,z1⟩,zero_right,by rw [z0];decide +kernel,by rw [z1];decide +kernel,.inl ⟨x0,rfl⟩⟩
    have e:rhS x.rv 0=fun _=>0:=funext fun i=>by
      unfold rhS;rw [x0]
      have:((0:Int):Rat)=0:=rfl
      rw [this];grind
    show Enc (rhS x.rv 0) zeroIv.lo.rv zeroIv.hi.rv
    rw [e,z0,z1];exact Enc.const 0
  · rw [q] at h;cases h
  · rw [q] at h;cases h
  · have hf:=halfP_hf q.w0 (show w≤65000 by have:=q.w1;omega)
    have w1:1≤w:=by have:=q.w0;omega
    have rp:(restW (halfP w) (oneD x) w).P:=⟨cutD_p,cutD_p⟩
    have c2:=cq.2.1
    have nb:narrowB (restW (halfP w) (oneD x) w) p=true:=by
      rw [narrowB,q.right,q.nar,leI_true.2 (show 0≤p by omega)];rfl
    have vn:=nar_of_narrow rp nb
    obtain ⟨cc,dc,_,d1,d2⟩:=hf.common hf
    have n1:=sure_near hf fy.p w1 q.sure dc
    have r1:=rest_in hf fy.p w1 dc
    rw [ey] at n1 r1
    have m1:=hf.enc.meets piS_enc
    have m2:=hf.nar
    have m3:p2 (-3-w)≤1/100:=by
      have:=p2_le (show -3-w≤-7 by have:=q.w0;omega)
      have e:p2 (-7)=1/128:=by decide +kernel
      rw [e] at this;grind
    have m4:cc≤8/5:=by have:=dc.2;grind
    obtain ⟨b1,b2⟩:=near_bd2 d1 m4 n1 rfl
    obtain ⟨g1,g2⟩:=vn_wide vn c2 r1 b1 b2
    have en:=rest_enc hf fy.p w1
    rw [ey] at en
    rw [q.eq]
    exact ⟨nI (halfP w) (oneD x) w,rfl,en,rp,vn,q.right,g1,g2,.inr ⟨w,q.w0,q.w1,fun c hc=>by have:=sure_near hf fy.p w1 q.sure hc;rwa [ey] at this⟩⟩
theorem near_zero0:NearI 0 0:=⟨by decide +kernel,by decide +kernel,fun _=>by decide⟩
theorem small_of{R:Vx}(le:R.lo.rv≤R.hi.rv)(h1:-(9/10)≤R.lo.rv)(h2:R.hi.rv≤9/10):small1 R.lo∧small1 R.hi:=⟨⟨by grind,by grind⟩,⟨by grind,by grind⟩⟩
structure PairQ (x:Dx) (p n:Int) (S C:Vx):Prop where
  k:∃ R,PairOk R (p2 (-19-p)) S C
  s:Enc (sinQ (rhS x.rv n)) S.lo.rv S.hi.rv
  c:Enc (cosQ (rhS x.rv n)) C.lo.rv C.hi.rv
theorem qnum_pair{x:Dx}{p n:Int}{R:Vx}(h:QNum x (p+32) R n)(p0:8≤p)(p1:p≤2064):(bothR R (p+24)=((zeroIv,zeroIv),3)∧rightV (trimV (sinesV (onesV R) (p+24)) (p+24+8))=false)∨∃ S C,bothR R (p+24)=((S,C),0)∧PairQ x p n S C∧PairOk R (p2 (-19-p)) S C:=by
  obtain ⟨s1,s2⟩:=small_of h.enc.self h.lo h.hi
  have f:=right_fits h.r
  have F1:=fault_of (p:=p+24) h.q.1 f.1 s1 (by omega) (by omega)
  have F2:=fault_of (p:=p+24) h.q.2 f.2.1 s2 (by omega) (by omega)
  have e5:p2 (5-(p+24))=p2 (-19-p):=by congr 1;omega
  rcases pair_ok h.q h.r F1 F2 h.v (rlL (p2_pos _)) (p2_le (by omega)) with e | ⟨e,K⟩
  · exact .inl e
  · rw [e5] at K
    exact .inr ⟨_,_,e,⟨⟨R,K⟩,enc_sinQ h.enc h.lo h.hi fun z a b=>K.sin z a b,enc_cosQ h.enc h.lo h.hi fun z a b=>K.cos z a b⟩,K⟩
def eP(b:Vx×Vx):Prop:=(eB 4611686018427387904 b.1.lo∧eB 4611686018427387904 b.1.hi)∧eB 4611686018427387904 b.2.lo∧eB 4611686018427387904 b.2.hi
theorem divV_sm{v u:Vx}{N:Nat}{p:Int}(hv:v.P)(hu:u.P)(sv:v.Sm N)(su:u.Sm N)(p0:0≤p)(p1:p≤N):(divV v u p).Sm (100*N+100):=by
  have o:∀ {a b:Dx} {up:Bool},0≤a.m→0≤b.m→a.Sm N→b.Sm N→(overD a b p up).Sm (100*N+100):=fun ha hb sa sb=>overD_sm ha hb sa sb p0 p1
  have q:∀ up,(quoV v u p up).Sm (100*N+100):=fun up=>spanL_sm (o hv.1 hu.1 sv.1 su.1) (o hv.1 hu.2 sv.1 su.2) (o hv.2 hu.1 sv.2 su.1) (o hv.2 hu.2 sv.2 su.2)
  exact ⟨(q false).1,(q true).2⟩
theorem fltD_p(x:Int):0≤(fltD x).m:=mkD_p
theorem sineH_sm{t:Dx}{p:Int}(ht:0≤t.m)(h:preS t p):(sineH t p).Sm 6291457:=by
  unfold sineH
  split
  · exact ⟨⟨by decide,by decide,by decide⟩,⟨by decide,by decide,by decide⟩⟩
  · obtain ⟨s,s1,p0,p1⟩:=h
    exact timesV_sm (N:=262144) (pointV_p t) (altR_iv (sqR_alt ht s1.1 s1.2 (f:=2) (by decide) (by decide) (by omega) (by omega))).p (pointV_sm ht s) (altR_sm ht s1 (by decide) (by decide) (by omega) (by omega)) (by omega)
theorem cosineH_sm{t:Dx}{p:Int}(ht:0≤t.m)(h:preS t p):(cosineH t p).Sm 6291457:=by
  obtain ⟨s,s1,p0,p1⟩:=h
  exact (altR_sm ht s1 (by decide) (by decide) (by omega) (by omega)).mono (by omega)
theorem over_sm{v:Vx}{p:Int}(hv:v.P)(h1:preS v.lo p)(h2:preS v.hi p):(sinesH v p).Sm 6291457∧(cosinesH v p).Sm 6291457:=by
  have a:=sineH_sm hv.1 h1
  have b:=sineH_sm hv.2 h2
  have c:=cosineH_sm hv.1 h1
  have d:=cosineH_sm hv.2 h2
  have o:(mkS 1 0).Sm 6291457:=(mkS_sm6 (n:=1) (by omega)).mono (by omega)
  have hh:(hullV (cosineH v.lo p) (cosineH v.hi p)).Sm 6291457:=by
    unfold hullV
    refine ⟨?_,?_⟩
    · show (if _ then _ else _:Dx).Sm _
      split
      · exact d.1
      · exact c.1
    · show (if _ then _ else _:Dx).Sm _
      split
      · exact d.2
      · exact c.2
  refine ⟨⟨a.1,b.2⟩,?_⟩
  unfold cosinesH
  split
  · exact ⟨hh.1,o⟩
  · exact hh
theorem zero_sm{N:Nat}:zeroIv.Sm N:=⟨⟨by show (0:Nat)≤N;omega,by show -(N:Int)≤0;omega,by show (0:Int)≤N;omega⟩,⟨by show (0:Nat)≤N;omega,by show -(N:Int)≤0;omega,by show (0:Int)≤N;omega⟩⟩
theorem zero_P:zeroIv.P:=⟨Int.le_refl _,Int.le_refl _⟩
theorem turnV_sm{v:Vx}{N:Nat}(hv:v.P)(h:v.Sm N):(turnV v).Sm (N+N):=⟨negD_sm h.2 hv.2,negD_sm h.1 hv.1⟩
theorem turnV_P(v:Vx):(turnV v).P:=⟨negD_p,negD_p⟩
structure WOk (v:Vx):Prop where
  p:v.P
  s:v.Sm 16777216
  o:v=zeroIv∨Off0 v
  l:v.lo.rv≤v.hi.rv
theorem WOk.turn{v:Vx}(hp:v.P)(hs:v.Sm 6291457)(o:v=zeroIv∨Off0 v)(l:v.lo.rv≤v.hi.rv):WOk (turnV v):=⟨turnV_P v,(turnV_sm hp hs).mono (by omega),by
  rcases o with o | o
  · exact .inl (by rw [o,turn_zero])
  · exact .inr (o.turn hp),by rw [(turn_rv hp).1,(turn_rv hp).2];grind⟩
theorem fltD_f(x:Int):OneF (fltD x):=⟨fneg x,fltM x,fltE x,by unfold fltM;have:=ffr_bd x;split<;>omega,rfl⟩
theorem fltD_bd{x:Int}(h:fexp x≠2047):(fltD x).Bd 1074 1024:=by
  have a:=ffr_bd x
  have b:=fexp_bd x
  have m0:0≤fltM x∧fltM x<9007199254740992:=by unfold fltM;split<;>omega
  have e0:-1074≤fltE x∧fltE x≤971:=by unfold fltE;split<;>omega
  have bl:blen (fltM x)≤53:=blen_le (by omega)
  exact mkD_bd m0.1 (by omega) (by omega) (by omega) (by omega)
theorem hasV_of{v:Vx}(h:rightV v=true){d:Dx}(hf:d.fitsB=true)(i:InV v d.rv):hasV v d=true:=by
  rw [hasV,h,hf,leI_true.2 (cmpD_le.2 i.1),leI_true.2 (cmpD_le.2 i.2)];rfl
theorem encl_parts{v u:Vx}{p:Int}(h:enclB v u p=true):rightV v=true∧narrowB v p=true:=by
  unfold enclB at h
  simp only [Bool.and_eq_true] at h
  exact ⟨h.1,h.2.2.1⟩
theorem one_fits:(mkS 1 0).fitsB=true:=small_fits (by omega)
theorem SpecOk.weaken{P:Program}{f:FuncId}{sp sp':Spec}(h:SpecOk P f sp)(k:∀ l,(match (sp' l).1 with | none=>True | some p=>p)→(match (sp l).1 with | none=>True | some p=>p)∧(sp' l).2=(sp l).2):SpecOk P f sp' :=
  ⟨h.fn,fun C w vs l hC hX hT hvs hp=>by
    obtain ⟨a,b⟩:=k l hp
    rw [b];exact h.run C w vs l hC hX hT hvs a⟩
def tyIv2:TyRow:=⟨90,12,true,zV ++ zV,.array 2 6 true⟩
def tyTn:TyRow:=⟨93,4,true,[.int .i64 0,.int .i64 0,.bool false,.bool false],.struct [(0,1,false),(1,1,false),(2,1,false),(3,1,false)]⟩
def tyTn4:TyRow:=⟨94,16,true,[.int .i64 0,.int .i64 0,.bool false,.bool false,.int .i64 0,.int .i64 0,.bool false,.bool false,.int .i64 0,.int .i64 0,.bool false,.bool false,.int .i64 0,.int .i64 0,.bool false,.bool false],.array 4 4 true⟩
def tyFu2:TyRow:=⟨22,1,false,[.int .u8 0],.int .u8⟩
def tysR:List TyRow:=tyTn4 :: tyTn :: tyIv2 :: tyFu2 :: tys4
theorem tysR_ok:RowsOk Tryz.prog tysR:=⟨by kernel_rfl,by kernel_rfl,by kernel_rfl,by kernel_rfl,tys4_ok⟩
def sgnV(v:Vx)(b:Bool):Vx:=if b=true then turnV v else v
def wSg(g:Vx→Bool→Vx):Spec:=specK [.v,.b] fun (v:Vx) (b:Bool)=>(some (eB 4611686018427387904 v.lo∧eB 4611686018427387904 v.hi),vF (g v b))
theorem rSg_vc(v:Vx)(b:Bool)(Q:Tv→Prop):execF ⟨tysR,sRaw8⟩ (fun _=>none) 0 Tryz.f77 [.agg (ivL false v),.one (.bool b)] Q=(br b ((eB 4611686018427387904 v.lo∧eB 4611686018427387904 v.hi)∧Q (Tv.sv (Sv.agg (ivL true (turnV v))))) (Q (Tv.sv (Sv.agg (ivL false v))))):=by kernel_rfl
def sTb(K:Int)(pq:Dx→Int→Prop)(rf:Dx→Int→Vx×Int)(bo:Vx→Int→(Vx×Vx)×Int)(sg:Vx→Bool→Vx):List (FuncId×Spec):=[(75,specK [.d,.i .i64] fun (x:Dx) (p:Int)=>(some (pq x p),quT (K,rf x p))),(76,specK [.v,.i .i64] fun (v:Vx) (p:Int)=>(none,reT2 (bo v p))),(77,wSg sg)]
theorem rBo0_vc(x:Dx)(p:Int)(pq:Dx→Int→Prop)(rf:Dx→Int→Vx×Int)(bo:Vx→Int→(Vx×Vx)×Int)(sg:Vx→Bool→Vx)(Q:Tv→Prop):execF ⟨tysR,sTb 0 pq rf bo sg⟩ (fun _=>none) 0 Tryz.f45 [.agg (dyL false x),.one (.int .i64 p)] Q=(inR (p+32)∧pq x (p+32)∧br (neI (rf x (p+32)).snd 0) (Q (Tv.tup [Sv.agg [At.bool false,At.words true [],At.int .i64 0,At.bool false,At.words true [],At.int .i64 0],Sv.agg [At.bool false,At.words true [],At.int .i64 0,At.bool false,At.words true [],At.int .i64 0],Sv.one (At.int .i64 (rf x (p+32)).snd)])) (inR (p+24)∧((0:Int)≤0∧(0:Int)<(↑(2:Nat):Int))∧((0:Int)≤1∧(1:Int)<(↑(2:Nat):Int))∧br (neI (bo (rf x (p+32)).fst (p+24)).snd 0) (Q (Tv.tup [Sv.agg [At.bool false,At.words true [],At.int .i64 0,At.bool false,At.words true [],At.int .i64 0],Sv.agg [At.bool false,At.words true [],At.int .i64 0,At.bool false,At.words true [],At.int .i64 0],Sv.one (At.int .i64 (bo (rf x (p+32)).fst (p+24)).snd)])) (((0:Int)≤0∧(0:Int)<(↑(4:Nat):Int))∧((0:Int)≤0∧(0:Int)<(↑(2:Nat):Int))∧(eB 4611686018427387904 (bo (rf x (p+32)).fst (p+24)).fst.fst.lo∧eB 4611686018427387904 (bo (rf x (p+32)).fst (p+24)).fst.fst.hi)∧((0:Int)≤1∧(1:Int)<(↑(2:Nat):Int))∧(eB 4611686018427387904 (bo (rf x (p+32)).fst (p+24)).fst.snd.lo∧eB 4611686018427387904 (bo (rf x (p+32)).fst (p+24)).fst.snd.hi)∧true=true∧Q (Tv.tup [Sv.agg (ivL false (sg (bo (rf x (p+32)).fst (p+24)).fst.fst false)),Sv.agg (ivL false (sg (bo (rf x (p+32)).fst (p+24)).fst.snd false)),Sv.one (At.int .i64 0)])))):=by kernel_rfl
theorem rBo1_vc(x:Dx)(p:Int)(pq:Dx→Int→Prop)(rf:Dx→Int→Vx×Int)(bo:Vx→Int→(Vx×Vx)×Int)(sg:Vx→Bool→Vx)(Q:Tv→Prop):execF ⟨tysR,sTb 1 pq rf bo sg⟩ (fun _=>none) 0 Tryz.f45 [.agg (dyL false x),.one (.int .i64 p)] Q=(inR (p+32)∧pq x (p+32)∧br (neI (rf x (p+32)).snd 0) (Q (Tv.tup [Sv.agg [At.bool false,At.words true [],At.int .i64 0,At.bool false,At.words true [],At.int .i64 0],Sv.agg [At.bool false,At.words true [],At.int .i64 0,At.bool false,At.words true [],At.int .i64 0],Sv.one (At.int .i64 (rf x (p+32)).snd)])) (inR (p+24)∧((0:Int)≤0∧(0:Int)<(↑(2:Nat):Int))∧((0:Int)≤1∧(1:Int)<(↑(2:Nat):Int))∧br (neI (bo (rf x (p+32)).fst (p+24)).snd 0) (Q (Tv.tup [Sv.agg [At.bool false,At.words true [],At.int .i64 0,At.bool false,At.words true [],At.int .i64 0],Sv.agg [At.bool false,At.words true [],At.int .i64 0,At.bool false,At.words true [],At.int .i64 0],Sv.one (At.int .i64 (bo (rf x (p+32)).fst (p+24)).snd)])) (((0:Int)≤1∧(1:Int)<(↑(4:Nat):Int))∧((0:Int)≤1∧(1:Int)<(↑(2:Nat):Int))∧(eB 4611686018427387904 (bo (rf x (p+32)).fst (p+24)).fst.snd.lo∧eB 4611686018427387904 (bo (rf x (p+32)).fst (p+24)).fst.snd.hi)∧((0:Int)≤0∧(0:Int)<(↑(2:Nat):Int))∧(eB 4611686018427387904 (bo (rf x (p+32)).fst (p+24)).fst.fst.lo∧eB 4611686018427387904 (bo (rf x (p+32)).fst (p+24)).fst.fst.hi)∧true=true∧Q (Tv.tup [Sv.agg (ivL false (sg (bo (rf x (p+32)).fst (p+24)).fst.snd false)),Sv.agg (ivL false (sg (bo (rf x (p+32)).fst (p+24)).fst.fst true)),Sv.one (At.int .i64 0)])))):=by kernel_rfl
theorem rBo2_vc(x:Dx)(p:Int)(pq:Dx→Int→Prop)(rf:Dx→Int→Vx×Int)(bo:Vx→Int→(Vx×Vx)×Int)(sg:Vx→Bool→Vx)(Q:Tv→Prop):execF ⟨tysR,sTb 2 pq rf bo sg⟩ (fun _=>none) 0 Tryz.f45 [.agg (dyL false x),.one (.int .i64 p)] Q=(inR (p+32)∧pq x (p+32)∧br (neI (rf x (p+32)).snd 0) (Q (Tv.tup [Sv.agg [At.bool false,At.words true [],At.int .i64 0,At.bool false,At.words true [],At.int .i64 0],Sv.agg [At.bool false,At.words true [],At.int .i64 0,At.bool false,At.words true [],At.int .i64 0],Sv.one (At.int .i64 (rf x (p+32)).snd)])) (inR (p+24)∧((0:Int)≤0∧(0:Int)<(↑(2:Nat):Int))∧((0:Int)≤1∧(1:Int)<(↑(2:Nat):Int))∧br (neI (bo (rf x (p+32)).fst (p+24)).snd 0) (Q (Tv.tup [Sv.agg [At.bool false,At.words true [],At.int .i64 0,At.bool false,At.words true [],At.int .i64 0],Sv.agg [At.bool false,At.words true [],At.int .i64 0,At.bool false,At.words true [],At.int .i64 0],Sv.one (At.int .i64 (bo (rf x (p+32)).fst (p+24)).snd)])) (((0:Int)≤2∧(2:Int)<(↑(4:Nat):Int))∧((0:Int)≤0∧(0:Int)<(↑(2:Nat):Int))∧(eB 4611686018427387904 (bo (rf x (p+32)).fst (p+24)).fst.fst.lo∧eB 4611686018427387904 (bo (rf x (p+32)).fst (p+24)).fst.fst.hi)∧((0:Int)≤1∧(1:Int)<(↑(2:Nat):Int))∧(eB 4611686018427387904 (bo (rf x (p+32)).fst (p+24)).fst.snd.lo∧eB 4611686018427387904 (bo (rf x (p+32)).fst (p+24)).fst.snd.hi)∧true=true∧Q (Tv.tup [Sv.agg (ivL false (sg (bo (rf x (p+32)).fst (p+24)).fst.fst true)),Sv.agg (ivL false (sg (bo (rf x (p+32)).fst (p+24)).fst.snd true)),Sv.one (At.int .i64 0)])))):=by kernel_rfl
theorem rBo3_vc(x:Dx)(p:Int)(pq:Dx→Int→Prop)(rf:Dx→Int→Vx×Int)(bo:Vx→Int→(Vx×Vx)×Int)(sg:Vx→Bool→Vx)(Q:Tv→Prop):execF ⟨tysR,sTb 3 pq rf bo sg⟩ (fun _=>none) 0 Tryz.f45 [.agg (dyL false x),.one (.int .i64 p)] Q=(inR (p+32)∧pq x (p+32)∧br (neI (rf x (p+32)).snd 0) (Q (Tv.tup [Sv.agg [At.bool false,At.words true [],At.int .i64 0,At.bool false,At.words true [],At.int .i64 0],Sv.agg [At.bool false,At.words true [],At.int .i64 0,At.bool false,At.words true [],At.int .i64 0],Sv.one (At.int .i64 (rf x (p+32)).snd)])) (inR (p+24)∧((0:Int)≤0∧(0:Int)<(↑(2:Nat):Int))∧((0:Int)≤1∧(1:Int)<(↑(2:Nat):Int))∧br (neI (bo (rf x (p+32)).fst (p+24)).snd 0) (Q (Tv.tup [Sv.agg [At.bool false,At.words true [],At.int .i64 0,At.bool false,At.words true [],At.int .i64 0],Sv.agg [At.bool false,At.words true [],At.int .i64 0,At.bool false,At.words true [],At.int .i64 0],Sv.one (At.int .i64 (bo (rf x (p+32)).fst (p+24)).snd)])) (((0:Int)≤3∧(3:Int)<(↑(4:Nat):Int))∧((0:Int)≤1∧(1:Int)<(↑(2:Nat):Int))∧(eB 4611686018427387904 (bo (rf x (p+32)).fst (p+24)).fst.snd.lo∧eB 4611686018427387904 (bo (rf x (p+32)).fst (p+24)).fst.snd.hi)∧((0:Int)≤0∧(0:Int)<(↑(2:Nat):Int))∧(eB 4611686018427387904 (bo (rf x (p+32)).fst (p+24)).fst.fst.lo∧eB 4611686018427387904 (bo (rf x (p+32)).fst (p+24)).fst.fst.hi)∧true=true∧Q (Tv.tup [Sv.agg (ivL false (sg (bo (rf x (p+32)).fst (p+24)).fst.snd true)),Sv.agg (ivL false (sg (bo (rf x (p+32)).fst (p+24)).fst.fst false)),Sv.one (At.int .i64 0)])))):=by kernel_rfl
def WkK:(ks:List Ak)→AFun ks→AFun ks→Prop
  | [],g,g'=>(match g'.1 with | none=>True | some p=>p)→(match g.1 with | none=>True | some p=>p)∧g'.2=g.2
  | _ :: ks,g,g'=>∀ x,WkK ks (g x) (g' x)
theorem specK_weaken:∀ {ks:List Ak} {g g':AFun ks},WkK ks g g'→∀ l,(match (specK ks g' l).1 with | none=>True | some p=>p)→(match (specK ks g l).1 with | none=>True | some p=>p)∧(specK ks g' l).2=(specK ks g l).2
  | [],_,_,h,[]=>h
  | [],_,_,_,_ :: _=>fun hp=>hp.elim
  | _ :: _,_,_,_,[]=>fun hp=>hp.elim
  | k :: ks,g,g',h,s :: l=>by
    have e:∀ g:AFun (k :: ks),specK (k :: ks) g (s :: l)=(match k.dec s with | some x=>specK ks (g x) l | none=>noSpec):=fun _=>rfl
    rw [e,e]
    cases k.dec s with
    | none=>exact fun hp=>hp.elim
    | some x=>exact specK_weaken (h x) l
theorem rSg_ok:SpecOk Tryz.prog 77 (wSg sgnV) :=
  specKW_ok (envOk tysR_ok sRaw8_ok) mixed Tryz.func77 rfl (by decide) (by decide) fun (v:Vx) _ (b:Bool) _ hp=>⟨fun _=>none,0,by
    show execF _ _ _ _ _ (fun t=>t=vF (sgnV v b)∨fgT t=vF (sgnV v b))
    refine (rSg_vc v b _).mpr (br_intro (fun h=>⟨hp,.inr ?_⟩) fun h=>.inl ?_)
    · rw [sgnV,if_pos h];rfl
    · rw [sgnV,if_neg (by rw [h];simp)];rfl⟩
def wTr(g:Dx→Int→(Vx×Vx)×Int):Spec:=specK [.d,.i .i64] fun (x:Dx) (p:Int)=>(some (8≤p∧p≤2064),reT2 (g x p))
theorem sTb_ok(K:Int):SpecsOk Tryz.prog (sTb K (fun x p=>(quarR x p).1=K) (fun x p=>(quarR x p).2) bothR sgnV) :=
  ⟨qQu_ok.weaken (specK_weaken fun (x:Dx) (p:Int) (hk:(quarR x p).1=K)=>⟨trivial,by rw [←hk]⟩),rBoth_ok,rSg_ok,trivial⟩
theorem quar_four{x:Dx}(hx:0≤x.m)(p:Int):(quarR x p).1=0∨(quarR x p).1=1∨(quarR x p).1=2∨(quarR x p).1=3:=by
  by_cases h:(quarR x p).2.2=0
  · obtain ⟨n,e,_⟩:=quar_num hx h
    omega
  · left
    rcases quar_cases x p with ⟨_,q⟩|⟨_,_,q⟩|⟨_,_,_,q⟩|⟨_,_,_,q⟩|⟨_,_,_,w,q⟩
    · rw [q]
    · rw [q]
    · rw [q]
    · rw [q]
    · rw [q.eq] at h;exact absurd rfl h
theorem right_eB2{v:Vx}(h:rightV v=true):eB 4611686018427387904 v.lo∧eB 4611686018427387904 v.hi:=⟨(fits_sm (right_fits h).1).eB (by omega),(fits_sm (right_fits h).2.1).eB (by omega)⟩
theorem both_eB{x:Dx}(hx:0≤x.m){p:Int}(p0:8≤p)(p1:p≤2064)(h:(quarR x (p+32)).2.2=0)(k:(bothR (quarR x (p+32)).2.1 (p+24)).2=0):(eB 4611686018427387904 (bothR (quarR x (p+32)).2.1 (p+24)).1.1.lo∧eB 4611686018427387904 (bothR (quarR x (p+32)).2.1 (p+24)).1.1.hi)∧eB 4611686018427387904 (bothR (quarR x (p+32)).2.1 (p+24)).1.2.lo∧eB 4611686018427387904 (bothR (quarR x (p+32)).2.1 (p+24)).1.2.hi:=by
  obtain ⟨n,_,Q⟩:=quar_num hx h
  rcases qnum_pair Q p0 p1 with ⟨e,_⟩|⟨S,C,e,_,K⟩
  · rw [e] at k;cases k
  · rw [e];exact ⟨right_eB2 K.sr,right_eB2 K.cr⟩
theorem tr0(b:Vx×Vx):turnP 0 b=b:=by rw [turnP,if_neg (by decide),if_neg (by decide),if_neg (by decide)]
theorem tr1(b:Vx×Vx):turnP 1 b=(b.2,turnV b.1):=by rw [turnP,if_pos rfl]
theorem tr2(b:Vx×Vx):turnP 2 b=(turnV b.1,turnV b.2):=by rw [turnP,if_neg (by decide),if_pos rfl]
theorem tr3(b:Vx×Vx):turnP 3 b=(turnV b.2,b.1):=by rw [turnP,if_neg (by decide),if_neg (by decide),if_pos rfl]
theorem rBo_ok0{x:Dx}(hx:0≤x.m){p:Int}(p0:8≤p)(p1:p≤2064)(hk:(quarR x (p+32)).1=0):execF ⟨tysR,sTb 0 (fun x p=>(quarR x p).1=0) (fun x p=>(quarR x p).2) bothR sgnV⟩ (fun _=>none) 0 Tryz.f45 [.agg (dyL false x),.one (.int .i64 p)] (fun t=>t=reT2 (bothTr x p)∨fgT t=reT2 (bothTr x p)):=by
  refine (rBo0_vc x p _ (fun x p=>(quarR x p).2) bothR sgnV _).mpr ⟨⟨by omega,by omega⟩,hk,br_intro (fun h=>.inr ?_) fun h=>⟨⟨by omega,by omega⟩,⟨by omega,by omega⟩,⟨by omega,by omega⟩,br_intro (fun k=>.inr ?_) fun k=>?_⟩⟩
  · rw [bothTr,if_neg (neI_true.1 h)];rfl
  · rw [bothTr,if_pos (neI_false.1 h),if_neg (neI_true.1 k)];rfl
  · obtain ⟨e1,e2⟩:=both_eB hx p0 p1 (neI_false.1 h) (neI_false.1 k)
    refine ⟨⟨by omega,by omega⟩,⟨by omega,by omega⟩,e1,⟨by omega,by omega⟩,e2,rfl,.inl ?_⟩
    rw [bothTr,if_pos (neI_false.1 h),if_pos (neI_false.1 k),hk,tr0];rfl
theorem rBo_ok1{x:Dx}(hx:0≤x.m){p:Int}(p0:8≤p)(p1:p≤2064)(hk:(quarR x (p+32)).1=1):execF ⟨tysR,sTb 1 (fun x p=>(quarR x p).1=1) (fun x p=>(quarR x p).2) bothR sgnV⟩ (fun _=>none) 0 Tryz.f45 [.agg (dyL false x),.one (.int .i64 p)] (fun t=>t=reT2 (bothTr x p)∨fgT t=reT2 (bothTr x p)):=by
  refine (rBo1_vc x p _ (fun x p=>(quarR x p).2) bothR sgnV _).mpr ⟨⟨by omega,by omega⟩,hk,br_intro (fun h=>.inr ?_) fun h=>⟨⟨by omega,by omega⟩,⟨by omega,by omega⟩,⟨by omega,by omega⟩,br_intro (fun k=>.inr ?_) fun k=>?_⟩⟩
  · rw [bothTr,if_neg (neI_true.1 h)];rfl
  · rw [bothTr,if_pos (neI_false.1 h),if_neg (neI_true.1 k)];rfl
  · obtain ⟨e1,e2⟩:=both_eB hx p0 p1 (neI_false.1 h) (neI_false.1 k)
    refine ⟨⟨by omega,by omega⟩,⟨by omega,by omega⟩,e2,⟨by omega,by omega⟩,e1,rfl,.inl ?_⟩
    rw [bothTr,if_pos (neI_false.1 h),if_pos (neI_false.1 k),hk,tr1];rfl
theorem rBo_ok2{x:Dx}(hx:0≤x.m){p:Int}(p0:8≤p)(p1:p≤2064)(hk:(quarR x (p+32)).1=2):execF ⟨tysR,sTb 2 (fun x p=>(quarR x p).1=2) (fun x p=>(quarR x p).2) bothR sgnV⟩ (fun _=>none) 0 Tryz.f45 [.agg (dyL false x),.one (.int .i64 p)] (fun t=>t=reT2 (bothTr x p)∨fgT t=reT2 (bothTr x p)):=by
  refine (rBo2_vc x p _ (fun x p=>(quarR x p).2) bothR sgnV _).mpr ⟨⟨by omega,by omega⟩,hk,br_intro (fun h=>.inr ?_) fun h=>⟨⟨by omega,by omega⟩,⟨by omega,by omega⟩,⟨by omega,by omega⟩,br_intro (fun k=>.inr ?_) fun k=>?_⟩⟩
  · rw [bothTr,if_neg (neI_true.1 h)];rfl
  · rw [bothTr,if_pos (neI_false.1 h),if_neg (neI_true.1 k)];rfl
  · obtain ⟨e1,e2⟩:=both_eB hx p0 p1 (neI_false.1 h) (neI_false.1 k)
    refine ⟨⟨by omega,by omega⟩,⟨by omega,by omega⟩,e1,⟨by omega,by omega⟩,e2,rfl,.inl ?_⟩
    rw [bothTr,if_pos (neI_false.1 h),if_pos (neI_false.1 k),hk,tr2];rfl
theorem rBo_ok3{x:Dx}(hx:0≤x.m){p:Int}(p0:8≤p)(p1:p≤2064)(hk:(quarR x (p+32)).1=3):execF ⟨tysR,sTb 3 (fun x p=>(quarR x p).1=3) (fun x p=>(quarR x p).2) bothR sgnV⟩ (fun _=>none) 0 Tryz.f45 [.agg (dyL false x),.one (.int .i64 p)] (fun t=>t=reT2 (bothTr x p)∨fgT t=reT2 (bothTr x p)):=by
  refine (rBo3_vc x p _ (fun x p=>(quarR x p).2) bothR sgnV _).mpr ⟨⟨by omega,by omega⟩,hk,br_intro (fun h=>.inr ?_) fun h=>⟨⟨by omega,by omega⟩,⟨by omega,by omega⟩,⟨by omega,by omega⟩,br_intro (fun k=>.inr ?_) fun k=>?_⟩⟩
  · rw [bothTr,if_neg (neI_true.1 h)];rfl
  · rw [bothTr,if_pos (neI_false.1 h),if_neg (neI_true.1 k)];rfl
  · obtain ⟨e1,e2⟩:=both_eB hx p0 p1 (neI_false.1 h) (neI_false.1 k)
    refine ⟨⟨by omega,by omega⟩,⟨by omega,by omega⟩,e2,⟨by omega,by omega⟩,e1,rfl,.inl ?_⟩
    rw [bothTr,if_pos (neI_false.1 h),if_pos (neI_false.1 k),hk,tr3];rfl
theorem specK_cons{k:Ak}{ks:List Ak}{g:AFun (k :: ks)}{s:Sv}{l:List Sv}:specK (k :: ks) g (s :: l)=(match k.dec s with | some x=>specK ks (g x) l | none=>noSpec):=rfl
theorem specK_di{g:AFun [.d,.i .i64]}{s s':Sv}{x:Dx}{p:Int}(hd:Ak.dec .d s=some x)(hi:Ak.dec (.i .i64) s'=some p):specK [.d,.i .i64] g [s,s']=g x p:=by
  rw [specK_cons,hd]
  show specK [.i .i64] (g x) [s']=_
  rw [specK_cons,hi]
  rfl
theorem specK_di_inv{g:AFun [.d,.i .i64]}:∀ {l:List Sv},(match (specK [.d,.i .i64] g l).1 with | none=>True | some p=>p)→∃ s s' x p,l = [s,s']∧Ak.dec .d s=some x∧Ak.dec (.i .i64) s'=some p
  | [],hp=>hp.elim
  | s :: l,hp=>by
    rw [specK_cons] at hp
    cases h:Ak.dec .d s with
    | none=>rw [h] at hp;exact hp.elim
    | some x =>
      rw [h] at hp
      have hp:(match (specK [.i .i64] (g x) l).1 with | none=>True | some p=>p):=hp
      cases l with
      | nil=>exact hp.elim
      | cons s' l =>
        rw [specK_cons] at hp
        cases k:Ak.dec (.i .i64) s' with
        | none=>rw [k] at hp;exact hp.elim
        | some p =>
          rw [k] at hp
          have hp:(match (specK [] (g x p) l).1 with | none=>True | some p=>p):=hp
          cases l with
          | nil=>exact ⟨s,s',x,p,rfl,h,k⟩
          | cons=>exact hp.elim
theorem SpecOk.cases4{P:Program}{f:FuncId}{pr:Dx→Int→Prop}{g:Dx→Int→Tv}(G:AFun [.d,.i .i64])(Gk:Int→AFun [.d,.i .i64])(K:Dx→Int→Int)(hK:∀ {x:Dx},Dx.Wf x→∀ p,K x p=0∨K x p=1∨K x p=2∨K x p=3)
    (e:∀ (x:Dx) (p:Int),G x p=(some (pr x p),g x p)) (ek:∀ (k:Int) (x:Dx) (p:Int),Gk k x p=(some (pr x p∧K x p=k),g x p)) (h:∀ k:Int,k=0∨k=1∨k=2∨k=3→SpecOk P f (specK [.d,.i .i64] (Gk k))) :
    SpecOk P f (specK [.d,.i .i64] G):=by
  refine ⟨(h 0 (.inl rfl)).fn,fun C w vs l hC hX hT hvs hp=>?_⟩
  obtain ⟨s,s',x,p,rfl,hd,hi⟩:=specK_di_inv hp
  have e1:=(specK_di (g:=G) hd hi).trans (e x p)
  rw [e1] at hp ⊢
  have wx:Dx.Wf x:=by
    cases vs with
    | nil=>exact hvs.elim
    | cons v vs=>exact (dec_ok (k:=.d) hd hvs.1).1
  have e2:=(specK_di (g:=Gk (K x p)) hd hi).trans (ek (K x p) x p)
  have:=(h (K x p) (hK wx p)).run C w vs [s,s'] hC hX hT hvs (by rw [e2];exact ⟨hp,rfl⟩)
  rw [e2] at this
  exact this
theorem rBo_ok:SpecOk Tryz.prog 45 (wTr bothTr):=by
  have one:∀ K:Int,(∀ {x:Dx} (_:0≤x.m) {p:Int} (_:8≤p) (_:p≤2064) (_:(quarR x (p+32)).1=K),execF ⟨tysR,sTb K (fun x p=>(quarR x p).1=K) (fun x p=>(quarR x p).2) bothR sgnV⟩ (fun _=>none) 0 Tryz.f45 [.agg (dyL false x),.one (.int .i64 p)] (fun t=>t=reT2 (bothTr x p)∨fgT t=reT2 (bothTr x p)))→SpecOk Tryz.prog 45 (specK [.d,.i .i64] fun (x:Dx) (p:Int)=>(some ((8≤p∧p≤2064)∧(quarR x (p+32)).1=K),reT2 (bothTr x p))):=fun K h =>
    specKW_ok (envOk tysR_ok (sTb_ok K)) mixed Tryz.func45 rfl (by decide) (by decide) fun (x:Dx) hw (p:Int) _ hp=>⟨fun _=>none,0,h (Dx.Wf.m0 hw) hp.1.1 hp.1.2 hp.2⟩
  exact SpecOk.cases4 (fun (x:Dx) (p:Int)=>(some (8≤p∧p≤2064),reT2 (bothTr x p))) (fun (k:Int) (x:Dx) (p:Int)=>(some ((8≤p∧p≤2064)∧(quarR x (p+32)).1=k),reT2 (bothTr x p))) (fun x p=>(quarR x (p+32)).1) (fun {x} hw p=>quar_four (Dx.Wf.m0 hw) (p+32)) (fun _ _=>rfl) (fun _ _ _=>rfl) fun k hk=>by
    rcases hk with rfl | rfl | rfl | rfl
    · exact one 0 rBo_ok0
    · exact one 1 rBo_ok1
    · exact one 2 rBo_ok2
    · exact one 3 rBo_ok3
theorem flt_fits{d:Dx}(fd:OneF d)(hb:d.Bd 1074 1024):d.fitsB=true:=fits_bd2 fd (hb.mono (by omega) (by omega))
theorem flt_top{d:Dx}(fd:OneF d)(hb:d.Bd 1074 1024):topD (oneD d)<1024:=by
  have h:=hb.hi
  rw [oneD_id fd]
  show d.e+blen d.m-1<1024
  omega
theorem flt_inX{d:Dx}(fd:OneF d)(hb:d.Bd 1074 1024):inX d:=inX_of fd.p (flt_fits fd hb) (flt_top fd hb)
structure FltPair (d:Dx) (p:Int) (S C:Vx) (n:Int):Prop where
  k:(quarR d (p+32)).1=n % 4
  qn:QNum d (p+32) (quarR d (p+32)).2.1 n
  e:bothR (quarR d (p+32)).2.1 (p+24)=((S,C),0)
  q:PairQ d p n S C
  K:PairOk (quarR d (p+32)).2.1 (p2 (-19-p)) S C
  s:d.rv=0∧n=0∧S=zeroIv∨d.rv≠0∧VM (p2 (-19-p)) (p2 (-8263)) (p2 5) S
  c:VM (p2 (-19-p)) (p2 (-3)) (p2 3) C
theorem pair_cv{v S C:Vx}{η:Rat}(K:PairOk v η S C):VM η (p2 (-3)) (p2 3) C:=by
  have e3:p2 (-3)=1/8:=by decide +kernel
  have e4:p2 3=8:=by decide +kernel
  have c0:=K.c0
  have c1:=K.c1
  exact .inl ⟨p2_pos _,by rw [e3];exact c0,by rw [e4];exact c1,K.cn⟩
theorem flt_pair{d:Dx}(fd:OneF d)(hb:d.Bd 1074 1024){p:Int}(p0:8≤p)(p1:p≤2064)(h:(quarR d (p+32)).2.2=0):∃ S C n,FltPair d p S C n:=by
  obtain ⟨n,kn,Q⟩:=quar_num fd.p h
  by_cases z:d.rv=0
  · have n0:n=0:=by
      rcases Q.near with ⟨_,b⟩|⟨w,w0,w1,f⟩
      · exact b
      · have hf:=halfP_hf w0 (show w≤65000 by omega)
        have:=f (halfP w).lo.rv ⟨Rat.le_refl,hf.le⟩
        rw [z,Rat.zero_mul] at this
        exact this.uniq near_zero0
    have e:(quarR d (p+32)).2.1=zeroIv:=by
      have zm:(oneD d).m=0:=Classical.byContradiction fun k=>by
        have:(oneD d).rv=0:=by rw [rv_one fd.p,z]
        have:=(zeroB_rv (d:=oneD d) oneD_p).2 this
        exact k (zeroB_true.1 this)
      rcases quar_cases d (p+32) with ⟨_,q⟩|⟨_,_,q⟩|⟨_,k,_⟩|⟨_,k,_⟩|⟨_,k,_⟩
      · rw [q]
      · rw [q]
      all_goals exact absurd zm k
    rcases qnum_pair Q p0 p1 with ⟨_,k⟩|⟨S,C,e',PQ,K⟩
    · exfalso
      rw [e] at k
      have:sinesV (onesV zeroIv) (p+24)=zeroIv:=by
        have o:oneD (⟨false,[],0⟩:Dx)=⟨false,[],0⟩:=oneD_id ⟨false,0,0,by decide,rfl⟩
        have s:sineV ⟨false,[],0⟩ (p+24)=zeroIv:=by rw [sineV,if_pos (show Dx.zeroB ⟨false,[],0⟩=true from rfl)]
        show (⟨(sineV (oneD ⟨false,[],0⟩) (p+24)).lo,(sineV (oneD ⟨false,[],0⟩) (p+24)).hi⟩:Vx)=zeroIv
        rw [o,s]
      rw [this,trim_zero _ (by omega),zero_right] at k
      cases k
    · have z0:zeroIv.lo.rv=0:=zero_rv
      have z1:zeroIv.hi.rv=0:=zero_rv
      have sz:S=zeroIv:=K.z (by rw [e,z0]) (by rw [e,z1])
      exact ⟨S,C,n,kn,Q,e',PQ,K,.inl ⟨z,n0,sz⟩,pair_cv K⟩
  · obtain ⟨s1,s2⟩:=small_of Q.enc.self Q.lo Q.hi
    obtain ⟨S,C,e,v,K⟩:=quar_both fd.p fd hb (flt_inX fd hb) z p0 p1 h s1 s2 Q.r Q.q
    rcases qnum_pair Q p0 p1 with ⟨k,_⟩|⟨S',C',e',PQ,K'⟩
    · rw [k] at e;cases e
    · rw [e'] at e
      obtain ⟨rfl,rfl⟩:S'=S∧C'=C:=by cases e;exact ⟨rfl,rfl⟩
      exact ⟨S',C',n,kn,Q,e',PQ,K',.inr ⟨z,v⟩,pair_cv K⟩
theorem FltPair.half{d:Dx}{p n:Int}{S C:Vx}(h:FltPair d p S C n):Half (p2 (-19-p)) S (sinQ (rhS d.rv n))∧Half (p2 (-19-p)) C (cosQ (rhS d.rv n)):=by
  obtain ⟨R,K⟩:=h.q.k
  have c0:=K.c0
  have c1:=K.c1
  exact ⟨⟨K.sp,K.sf,K.sr,K.st,K.s32,h.q.s⟩,⟨K.cp,K.cf,K.cr,.inr (.inl K.cn),⟨by grind,by grind⟩,h.q.c⟩⟩
theorem bothTr_eq{d:Dx}{p n:Int}{S C:Vx}(h:FltPair d p S C n)(h0:(quarR d (p+32)).2.2=0):bothTr d p=(turnP (n % 4) (S,C),0):=by
  rw [bothTr,if_pos h0,h.e,if_pos rfl,h.k]
structure HNum (x:Dx) (p:Int) (R:Vx) (n:Int):Prop where
  enc:Enc (rhS x.rv n) R.lo.rv R.hi.rv
  q:R.P
  v:VN (p2 (-p)) R
  r:rightV R=true
  lo:-(9/10)≤R.lo.rv
  hi:R.hi.rv≤9/10
  near:x.rv=0∧n=0∨∃ w,64≤w∧w≤16384∧∀ c,InV (refH w) c→NearI n (x.rv*c⁻¹)
theorem hqu_num{x:Dx}(hx:0≤x.m){p:Int}(p0:8≤p)(h:(hquR x p).2.2=0):∃ n:Int,(hquR x p).1=n % 4∧HNum x p (hquR x p).2.1 n:=by
  have z0:zeroIv.lo.rv=0:=zero_rv
  have z1:zeroIv.hi.rv=0:=zero_rv
  unfold hquR at h ⊢
  by_cases c:faultQ x p≠0∨x.m=0
  · rw [if_pos c] at h ⊢
    have xm:x.m=0:=by
      rcases c with c | c
      · exact absurd h c
      · exact c
    have x0:x.rv=0:=rv_zero xm
    refine ⟨0,rfl,?_,⟨Int.le_refl _,Int.le_refl _⟩,.inl ⟨z0,z1⟩,zero_right,by show -(9/10)≤zeroIv.lo.rv;rw [z0];decide +kernel,by show zeroIv.hi.rv≤9/10;rw [z1];decide +kernel,.inl ⟨x0,rfl⟩⟩
    have e:rhS x.rv 0=fun _=>0:=funext fun i=>by
      unfold rhS;rw [x0]
      have:((0:Int):Rat)=0:=rfl
      rw [this];grind
    show Enc (rhS x.rv 0) zeroIv.lo.rv zeroIv.hi.rv
    rw [e,z0,z1];exact Enc.const 0
  · rw [if_neg c] at h ⊢
    rcases hquL_spec (x:=x) (p:=p) 9 (max (topD (oneD x)) 0+p+64) (by omega) with e | ⟨w,w0,w1,k,e⟩
    · rw [e] at h;cases h
    · obtain ⟨sure,nb,et⟩:=tryH_parts k
      have hf:=refH_hf (w:=w) (by omega) (by omega)
      have w2:1≤w:=by omega
      have rp:(restW (refH w) x w).P:=⟨cutD_p,cutD_p⟩
      have vn:=nar_of_narrow rp nb
      obtain ⟨_,rr,_⟩:=narrow_facts2 rp nb
      obtain ⟨cc,dc,_,d1,d2⟩:=hf.common hf
      have n1:=sure_near hf hx w2 sure dc
      have r1:=rest_in hf hx w2 dc
      have m1:=hf.enc.meets piS_enc
      have m2:=hf.nar
      have m3:p2 (23-w)≤1/100:=by
        have:=p2_le (show 23-w≤-7 by omega)
        have e:p2 (-7)=1/128:=by decide +kernel
        rw [e] at this;grind
      have m4:cc≤8/5:=by have:=dc.2;grind
      obtain ⟨b1,b2⟩:=near_bd2 d1 m4 n1 rfl
      obtain ⟨g1,g2⟩:=vn_wide vn p0 r1 b1 b2
      rw [e,et]
      exact ⟨nI (refH w) x w,rfl,rest_enc hf hx w2,rp,vn,rr,g1,g2,.inr ⟨w,w0,w1,fun c hc=>sure_near hf hx w2 sure hc⟩⟩
theorem qh_same{x:Dx}{p p':Int}{R R':Vx}{n n':Int}(h:QNum x p R n)(k:HNum x p' R' n'):n=n':=by
  rcases h.near with ⟨a,b⟩|⟨w,w0,w1,f⟩<;>rcases k.near with ⟨a',b'⟩|⟨w',w0',w1',f'⟩
  · rw [b,b']
  · have hf:=refH_hf (w:=w') (by omega) (by omega)
    have:=f' (refH w').lo.rv ⟨Rat.le_refl,hf.le⟩
    rw [a,Rat.zero_mul] at this
    rw [b];exact near_zero0.uniq this
  · have hf:=halfP_hf w0 (show w≤65000 by omega)
    have:=f (halfP w).lo.rv ⟨Rat.le_refl,hf.le⟩
    rw [a',Rat.zero_mul] at this
    rw [b'];exact this.uniq near_zero0
  · obtain ⟨c,hc,hc',_⟩:=(halfP_hf w0 (show w≤65000 by omega)).common (refH_hf (w:=w') (by omega) (by omega))
    exact (f c hc).uniq (f' c hc')
structure DocP (x:Dx) (p n:Int) (U W:Vx):Prop where
  s:Enc (sinQ (rhS x.rv n)) U.lo.rv U.hi.rv
  c:Enc (cosQ (rhS x.rv n)) W.lo.rv W.hi.rv
  u:WOk U
  w:WOk W
  us:U.Sm 6291457
  ws:W.Sm 6291457
  ow:Off0 W
  ou:x.rv≠0→Off0 U
theorem hnum_pre{x:Dx}{p n:Int}{R:Vx}(h:HNum x p R n){q:Int}(q0:0≤q)(q1:q≤60000):preS R.lo q∧preS R.hi q:=by
  obtain ⟨s1,s2⟩:=small_of h.enc.self h.lo h.hi
  have f:=right_sm h.r
  exact ⟨⟨f.1.mono (by omega),s1,q0,q1⟩,f.2.mono (by omega),s2,q0,q1⟩
theorem doc_pair{x:Dx}(hx:0≤x.m){p:Int}(p0:8≤p)(p1:p≤2048)(h:(hquR x (p+24)).2.2=0):∃ n,(hquR x (p+24)).1=n % 4∧HNum x (p+24) (hquR x (p+24)).2.1 n∧DocP x p n (sinesH (hquR x (p+24)).2.1 (p+24)) (cosinesH (hquR x (p+24)).2.1 (p+24)):=by
  obtain ⟨n,kn,H⟩:=hqu_num hx (show 8≤p+24 by omega) h
  obtain ⟨s1,s2⟩:=small_of H.enc.self H.lo H.hi
  obtain ⟨q1,q2⟩:=hnum_pre H (q:=p+24) (by omega) (by omega)
  obtain ⟨PS,ES⟩:=sinesH_enc (p:=p+24) H.q s1 s2 (by omega) (by omega)
  obtain ⟨PC,EC⟩:=cosinesH_enc (p:=p+24) H.q s1 s2 (by omega) (by omega)
  obtain ⟨m1,m2⟩:=over_sm H.q q1 q2
  have es:=enc_sinQ H.enc H.lo H.hi ES
  have ec:=enc_cosQ H.enc H.lo H.hi EC
  have ow:=cosinesH_off (p:=p+24) H.q s1 s2 (by omega) (by omega)
  have ou:x.rv≠0→Off0 (sinesH (hquR x (p+24)).2.1 (p+24)):=fun z=>sinesH_off (p:=p+24) H.q s1 s2 (by omega) (by omega) (nar_off (hqu_off hx z (by omega) h))
  refine ⟨n,kn,H,es,ec,⟨PS,m1.mono (by omega),?_,es.self⟩,⟨PC,m2.mono (by omega),.inr ow,ec.self⟩,m1,m2,ow,ou⟩
  by_cases z:x.rv=0
  · left
    have xm:x.m=0:=Classical.byContradiction fun k=>by
      have:=(zeroB_rv (d:=x) hx).2 z
      exact k (zeroB_true.1 this)
    have e:(hquR x (p+24)).2.1=zeroIv:=by rw [hquR,if_pos (.inr xm)]
    rw [e]
    have:sineH ⟨false,[],0⟩ (p+24)=zeroIv:=by rw [sineH,if_pos (show Dx.zeroB ⟨false,[],0⟩=true from rfl)]
    show (⟨(sineH ⟨false,[],0⟩ (p+24)).lo,(sineH ⟨false,[],0⟩ (p+24)).hi⟩:Vx)=zeroIv
    rw [this]
  · exact .inr (ou z)
def wIs17(is:Int→Bool):Spec:=specK [.i .u8] fun (f:Int)=>(none,bT (is f))
def sBp17(ck:Dx→Int)(of:Dx→Int→(Vx×Vx)×Int)(tr:Vx→Int→Vx):List (FuncId×Spec):=[(71,specK [.d] fun (d:Dx)=>(none,iT (ck d))),(45,wTr of),(47,specK [.v,.i .i64] fun (v:Vx) (p:Int)=>(some (v.Sm 34359738368∧0≤p∧p≤1099511627776),vT (tr v p)))]
theorem rBp_vc(x:Dx)(p:Int)(ck:Dx→Int)(of:Dx→Int→(Vx×Vx)×Int)(tr:Vx→Int→Vx)(Q:Tv→Prop):execF ⟨tysR,sBp17 ck of tr⟩ (fun _=>none) 0 Tryz.f37 [.agg (dyL false x),.one (.int .i64 p)] Q=(br (neI (ck x) 0) (Q (Tv.tup [Sv.agg [At.bool false,At.words true [],At.int .i64 0,At.bool false,At.words true [],At.int .i64 0],Sv.agg [At.bool false,At.words true [],At.int .i64 0,At.bool false,At.words true [],At.int .i64 0],Sv.one (At.int .i64 2)])) (br (ltI p 8) (Q (Tv.tup [Sv.agg [At.bool false,At.words true [],At.int .i64 0,At.bool false,At.words true [],At.int .i64 0],Sv.agg [At.bool false,At.words true [],At.int .i64 0,At.bool false,At.words true [],At.int .i64 0],Sv.one (At.int .i64 2)])) (br (ltI 2048 p) (Q (Tv.tup [Sv.agg [At.bool false,At.words true [],At.int .i64 0,At.bool false,At.words true [],At.int .i64 0],Sv.agg [At.bool false,At.words true [],At.int .i64 0,At.bool false,At.words true [],At.int .i64 0],Sv.one (At.int .i64 2)])) (((8:Int)≤p∧p≤2064)∧br (neI (of x p).snd 0) (Q (Tv.tup [Sv.agg [At.bool false,At.words true [],At.int .i64 0,At.bool false,At.words true [],At.int .i64 0],Sv.agg [At.bool false,At.words true [],At.int .i64 0,At.bool false,At.words true [],At.int .i64 0],Sv.one (At.int .i64 (of x p).snd)])) (inR (p+8)∧(Vx.Sm 34359738368 (of x p).fst.fst∧(0:Int)≤p+8∧p+8≤1099511627776)∧inR (p+8)∧(Vx.Sm 34359738368 (of x p).fst.snd∧(0:Int)≤p+8∧p+8≤1099511627776)∧true=true∧Q (Tv.tup [Sv.agg (ivL true (tr (of x p).fst.fst (p+8))),Sv.agg (ivL true (tr (of x p).fst.snd (p+8))),Sv.one (At.int .i64 0)])))))):=by kernel_rfl
theorem rIs_vc(f:Int)(Q:Tv→Prop):execF ⟨tysR,[]⟩ (fun _=>none) 0 Tryz.f14 [.one (.int .u8 f)] Q=(br (leI 13 f) (Q (bT (leI f 15))) (Q (bT false))):=by kernel_rfl
def sEp17(is:Int→Bool)(fr:Int→Dx×Int)(of:Dx→Int→(Vx×Vx)×Int)(tr:Vx→Int→Vx)(dv:Vx→Vx→Int→Vx):List (FuncId×Spec):=[(14,wIs17 is),(44,specK [.i .u64] fun (x:Int)=>(some (Word x),rdT (fr x))),(46,specK [.v,.v,.i .i64] fun (v:Vx) (u:Vx) (p:Int)=>(some (v.Sm 67108864∧u.Sm 67108864∧u.lo.m≠0∧u.hi.m≠0∧0≤p∧p≤67108864),vF (dv v u p))),(45,wTr of),(47,specK [.v,.i .i64] fun (v:Vx) (p:Int)=>(some (v.Sm 34359738368∧0≤p∧p≤1099511627776),vT (tr v p)))]
theorem rEp_vc(f x p:Int)(is:Int→Bool)(fr:Int→Dx×Int)(of:Dx→Int→(Vx×Vx)×Int)(tr:Vx→Int→Vx)(dv:Vx→Vx→Int→Vx)(Q:Tv→Prop):execF ⟨tysR,sEp17 is fr of tr dv⟩ (fun _=>none) 0 Tryz.f10 [.one (.int .u8 f),.one (.int .u64 x),.one (.int .i64 p)] Q=(br (!is f) (Q (Tv.tup [Sv.agg [At.bool false,At.words true [],At.int .i64 0,At.bool false,At.words true [],At.int .i64 0],Sv.one (At.int .i64 2)])) (br (ltI p 8) (Q (Tv.tup [Sv.agg [At.bool false,At.words true [],At.int .i64 0,At.bool false,At.words true [],At.int .i64 0],Sv.one (At.int .i64 2)])) (br (ltI 2048 p) (Q (Tv.tup [Sv.agg [At.bool false,At.words true [],At.int .i64 0,At.bool false,At.words true [],At.int .i64 0],Sv.one (At.int .i64 2)])) (Word x∧br (neI (fr x).snd 0) (Q (Tv.tup [Sv.agg [At.bool false,At.words true [],At.int .i64 0,At.bool false,At.words true [],At.int .i64 0],Sv.one (At.int .i64 (fr x).snd)])) (((8:Int)≤p∧p≤2064)∧br (neI (of (fr x).fst p).snd 0) (Q (Tv.tup [Sv.agg [At.bool false,At.words true [],At.int .i64 0,At.bool false,At.words true [],At.int .i64 0],Sv.one (At.int .i64 (of (fr x).fst p).snd)])) (br (eqI f 14) (inR (p+8)∧(Vx.Sm 34359738368 (of (fr x).fst p).fst.snd∧(0:Int)≤p+8∧p+8≤1099511627776)∧Q (Tv.tup [Sv.agg (ivL true (tr (of (fr x).fst p).fst.snd (p+8))),Sv.one (At.int .i64 0)])) (br (eqI f 15) (inR (p+24)∧(Vx.Sm 67108864 (of (fr x).fst p).fst.fst∧Vx.Sm 67108864 (of (fr x).fst p).fst.snd∧Dx.m (of (fr x).fst p).fst.snd.lo≠0∧Dx.m (of (fr x).fst p).fst.snd.hi≠0∧(0:Int)≤p+24∧p+24≤67108864)∧inR (p+8)∧(Vx.Sm 34359738368 (dv (of (fr x).fst p).fst.fst (of (fr x).fst p).fst.snd (p+24))∧(0:Int)≤p+8∧p+8≤1099511627776)∧Q (Tv.tup [Sv.agg (ivL true (tr (dv (of (fr x).fst p).fst.fst (of (fr x).fst p).fst.snd (p+24)) (p+8))),Sv.one (At.int .i64 0)])) (inR (p+8)∧(Vx.Sm 34359738368 (of (fr x).fst p).fst.fst∧(0:Int)≤p+8∧p+8≤1099511627776)∧Q (Tv.tup [Sv.agg (ivL true (tr (of (fr x).fst p).fst.fst (p+8))),Sv.one (At.int .i64 0)]))))))))):=by kernel_rfl
def sBu17(fR:Dx→Bool)(hq:Dx→Int→Int×Vx×Int)(ov:Vx→Int→Vx×Vx)(po:Vx→Int→Prop):List (FuncId×Spec):=[(58,specK [.d] fun (d:Dx)=>(none,bT (fR d))),(72,specK [.d,.i .i64] fun (x:Dx) (p:Int)=>(none,quT (hq x p))),(73,specK [.v,.i .i64] fun (v:Vx) (p:Int)=>(some (po v p),vvT (ov v p).1 (ov v p).2)),(35,gNeg)]
theorem hBu17_vc(x:Dx)(p:Int)(fR:Dx→Bool)(hq:Dx→Int→Int×Vx×Int)(ov:Vx→Int→Vx×Vx)(po:Vx→Int→Prop)(Q:Tv→Prop):execF ⟨tysR,sBu17 fR hq ov po⟩ (fun _=>none) 0 Tryz.f38 [.agg (dyL false x),.one (.int .i64 p)] Q=(br (!fR x) (Q (Tv.tup [Sv.agg [At.bool false,At.words true [],At.int .i64 0,At.bool false,At.words true [],At.int .i64 0],Sv.agg [At.bool false,At.words true [],At.int .i64 0,At.bool false,At.words true [],At.int .i64 0],Sv.one (At.int .i64 2)])) (br (ltI p 8) (Q (Tv.tup [Sv.agg [At.bool false,At.words true [],At.int .i64 0,At.bool false,At.words true [],At.int .i64 0],Sv.agg [At.bool false,At.words true [],At.int .i64 0,At.bool false,At.words true [],At.int .i64 0],Sv.one (At.int .i64 2)])) (br (ltI 2048 p) (Q (Tv.tup [Sv.agg [At.bool false,At.words true [],At.int .i64 0,At.bool false,At.words true [],At.int .i64 0],Sv.agg [At.bool false,At.words true [],At.int .i64 0,At.bool false,At.words true [],At.int .i64 0],Sv.one (At.int .i64 2)])) (inR (p+24)∧br (neI (hq x (p+24)).snd.snd 0) (Q (Tv.tup [Sv.agg [At.bool false,At.words true [],At.int .i64 0,At.bool false,At.words true [],At.int .i64 0],Sv.agg [At.bool false,At.words true [],At.int .i64 0,At.bool false,At.words true [],At.int .i64 0],Sv.one (At.int .i64 (hq x (p+24)).snd.snd)])) (inR (p+24)∧po (hq x (p+24)).snd.fst (p+24)∧br (eqI (hq x (p+24)).fst 1) ((eB 4611686018427387904 (ov (hq x (p+24)).snd.fst (p+24)).fst.lo∧eB 4611686018427387904 (ov (hq x (p+24)).snd.fst (p+24)).fst.hi)∧true=true∧Q (Tv.tup [Sv.agg (ivL false (ov (hq x (p+24)).snd.fst (p+24)).snd),Sv.agg (ivL true (turnV (ov (hq x (p+24)).snd.fst (p+24)).fst)),Sv.one (At.int .i64 0)])) (br (eqI (hq x (p+24)).fst 2) ((eB 4611686018427387904 (ov (hq x (p+24)).snd.fst (p+24)).fst.lo∧eB 4611686018427387904 (ov (hq x (p+24)).snd.fst (p+24)).fst.hi)∧(eB 4611686018427387904 (ov (hq x (p+24)).snd.fst (p+24)).snd.lo∧eB 4611686018427387904 (ov (hq x (p+24)).snd.fst (p+24)).snd.hi)∧true=true∧Q (Tv.tup [Sv.agg (ivL true (turnV (ov (hq x (p+24)).snd.fst (p+24)).fst)),Sv.agg (ivL true (turnV (ov (hq x (p+24)).snd.fst (p+24)).snd)),Sv.one (At.int .i64 0)])) (br (eqI (hq x (p+24)).fst 3) ((eB 4611686018427387904 (ov (hq x (p+24)).snd.fst (p+24)).snd.lo∧eB 4611686018427387904 (ov (hq x (p+24)).snd.fst (p+24)).snd.hi)∧true=true∧Q (Tv.tup [Sv.agg (ivL true (turnV (ov (hq x (p+24)).snd.fst (p+24)).snd)),Sv.agg (ivL false (ov (hq x (p+24)).snd.fst (p+24)).fst),Sv.one (At.int .i64 0)])) (true=true∧Q (Tv.tup [Sv.agg (ivL false (ov (hq x (p+24)).snd.fst (p+24)).fst),Sv.agg (ivL false (ov (hq x (p+24)).snd.fst (p+24)).snd),Sv.one (At.int .i64 0)]))))))))):=by kernel_rfl
def sFe(fR fZ:Dx→Bool)(fT:Dx→Int)(hb:Dx→Bool)(ix:Dx→Prop):List (FuncId×Spec):=[(58,specK [.d] fun (d:Dx)=>(none,bT (fR d))),(39,specK [.d] fun (d:Dx)=>(none,bT (fZ d))),(31,specK [.d] fun (d:Dx)=>(some (eB 2305843009213693952 d),iT (fT d))),(59,specK [.d] fun (x:Dx)=>(some (ix x),bT (hb x)))]
theorem lFe_vc(x:Dx)(fR fZ:Dx→Bool)(fT:Dx→Int)(hb:Dx→Bool)(ix:Dx→Prop)(Q:Tv→Prop):execF ⟨tysR,sFe fR fZ fT hb ix⟩ (fun _=>none) 0 Tryz.f17 [.agg (dyL false x)] Q=(br (!fR x) (Q (bT false)) (br (fZ x) (Q (bT false)) (eB 2305843009213693952 x∧br (leI 1024 (fT x)) (Q (bT false)) (eB 2305843009213693952 x∧br (ltI (fT x) (-16384)) (Q (bT true)) (ix x∧Q (bT (hb x))))))):=by kernel_rfl
def sLk17(fS:Vx→Vx→Bool)(fR:Vx→Bool)(fL:Vx→Vx→Int→Bool):List (FuncId×Spec):=[(53,xVVb fS),(56,specK [.v] fun (v:Vx)=>(none,bT (fR v))),(57,specK [.v,.v,.i .i64] fun (v:Vx) (u:Vx) (p:Int)=>(some (u.Sm 34359738368),bT (fL v u p)))]
theorem lLk17_vc(v:Vx)(why:Int)(u:Vx)(no p:Int)(free:Bool)(fS:Vx→Vx→Bool)(fR:Vx→Bool)(fL:Vx→Vx→Int→Bool)(Q:Tv→Prop):execF ⟨tysR,sLk17 fS fR fL⟩ (fun _=>none) 0 Tryz.f16 [.agg (ivL false v),.one (.int .i64 why),.agg (ivL false u),.one (.int .i64 no),.one (.int .i64 p),.one (.bool free)] Q=(br (neI why 0) (br (!fS v (Vx.mk (Dx.mk false [] 0) (Dx.mk false [] 0))) (Q (bT false)) (br free (br (eqI no 0) (br (eqI why 6) (Q (bT true)) (br (eqI why 3) (Q (bT true)) (br (eqI why 0) (br (neI no 0) (Q (bT true)) (br (!fR u) (Q (bT true)) (Vx.Sm 34359738368 u∧Q (bT (fL v u p))))) (Q (bT false))))) (br (eqI no 6) (br (eqI why 6) (Q (bT true)) (br (eqI why 3) (Q (bT true)) (br (eqI why 0) (br (neI no 0) (Q (bT true)) (br (!fR u) (Q (bT true)) (Vx.Sm 34359738368 u∧Q (bT (fL v u p))))) (Q (bT false))))) (br (neI no 0) (Q (bT (eqI why no))) (br (eqI why 0) (Vx.Sm 34359738368 u∧Q (bT (fL v u p))) (Q (bT false)))))) (br (neI no 0) (Q (bT (eqI why no))) (br (eqI why 0) (Vx.Sm 34359738368 u∧Q (bT (fL v u p))) (Q (bT false)))))) (br free (br (eqI no 0) (br (eqI why 6) (Q (bT true)) (br (eqI why 3) (Q (bT true)) (br (eqI why 0) (br (neI no 0) (Q (bT true)) (br (!fR u) (Q (bT true)) (Vx.Sm 34359738368 u∧Q (bT (fL v u p))))) (Q (bT false))))) (br (eqI no 6) (br (eqI why 6) (Q (bT true)) (br (eqI why 3) (Q (bT true)) (br (eqI why 0) (br (neI no 0) (Q (bT true)) (br (!fR u) (Q (bT true)) (Vx.Sm 34359738368 u∧Q (bT (fL v u p))))) (Q (bT false))))) (br (neI no 0) (Q (bT (eqI why no))) (br (eqI why 0) (Vx.Sm 34359738368 u∧Q (bT (fL v u p))) (Q (bT false)))))) (br (neI no 0) (Q (bT (eqI why no))) (br (eqI why 0) (Vx.Sm 34359738368 u∧Q (bT (fL v u p))) (Q (bT false)))))):=by kernel_rfl
def bothTq(x:Dx)(p:Int):(Vx×Vx)×Int:=if chkD x=0∧8≤p∧p≤2048 then (if (bothTr x p).2=0 then ((trimV (bothTr x p).1.1 (p+8),trimV (bothTr x p).1.2 (p+8)),0) else ((zeroIv,zeroIv),(bothTr x p).2)) else ((zeroIv,zeroIv),2)
theorem bothTr_right{x:Dx}(hx:0≤x.m){p:Int}(p0:8≤p)(p1:p≤2064)(h:(bothTr x p).2=0):∃ s c,Half (p2 (-19-p)) (bothTr x p).1.1 s∧Half (p2 (-19-p)) (bothTr x p).1.2 c:=by
  unfold bothTr at h ⊢
  split at h
  · rename_i h1
    rw [if_pos h1]
    split at h
    · rename_i h2
      rw [if_pos h2]
      obtain ⟨n,_,Q⟩:=quar_num hx h1
      rcases qnum_pair Q p0 p1 with ⟨e,_⟩|⟨S,C,e,PQ,K⟩
      · rw [e] at h2;cases h2
      · rw [e]
        have c0:=K.c0
        have c1:=K.c1
        obtain ⟨a,b⟩:=turn_half (show Half (p2 (-19-p)) S (sinQ (rhS x.rv n)) from ⟨K.sp,K.sf,K.sr,K.st,K.s32,PQ.s⟩) (show Half (p2 (-19-p)) C (cosQ (rhS x.rv n)) from ⟨K.cp,K.cf,K.cr,.inr (.inl K.cn),⟨by grind,by grind⟩,PQ.c⟩) (quarR x (p+32)).1
        exact ⟨_,_,a,b⟩
    · rename_i h2;exact absurd h h2
  · rename_i h1;exact absurd h h1
def rBp:Spec:=specK [.d,.i .i64] fun (x:Dx) (p:Int)=>(none,reT2 (bothTq x p))
theorem sBp17_ok:SpecsOk Tryz.prog (sBp17 chkD bothTr trimV):=⟨dChk_ok,rBo_ok,rTrim_ok,trivial⟩
theorem rBp_ok:SpecOk Tryz.prog 37 rBp :=
  specKW_ok (envOk tysR_ok sBp17_ok) mixed Tryz.func37 rfl (by decide) (by decide) fun (x:Dx) hw (p:Int) _ _=>⟨fun _=>none,0,by
    have hx:=Dx.Wf.m0 hw
    show execF _ _ _ _ _ (fun t=>t=reT2 (bothTq x p)∨fgT t=reT2 (bothTq x p))
    refine (rBp_vc x p chkD bothTr trimV _).mpr (br_intro (fun h=>.inr ?_) fun h=>br_intro (fun h'=>.inr ?_) fun h'=>br_intro (fun h''=>.inr ?_) fun h''=>⟨⟨?_,?_⟩,br_intro (fun k=>.inr ?_) fun k=>?_⟩)
    · rw [bothTq,if_neg (fun c=>neI_true.1 h c.1)];rfl
    · have:=ltI_true.1 h'
      rw [bothTq,if_neg (by omega)];rfl
    · have:=ltI_true.1 h''
      rw [bothTq,if_neg (by omega)];rfl
    · have:=ltI_false.1 h';omega
    · have:=ltI_false.1 h'';omega
    all_goals
      have c:chkD x=0∧8≤p∧p≤2048:=⟨neI_false.1 h,by have:=ltI_false.1 h';omega,by have:=ltI_false.1 h'';omega⟩
    · rw [bothTq,if_pos c,if_neg (neI_true.1 k)];rfl
    · have e:=neI_false.1 k
      obtain ⟨s,t,hs,ht⟩:=bothTr_right hx c.2.1 (by omega) e
      refine ⟨⟨by omega,by omega⟩,⟨(right_sm hs.r).mono (by omega),by omega,by omega⟩,⟨by omega,by omega⟩,⟨(right_sm ht.r).mono (by omega),by omega,by omega⟩,rfl,.inr ?_⟩
      rw [bothTq,if_pos c,if_pos e];rfl⟩
def isTr(f:Int):Bool:=leI 13 f && leI f 15
theorem rIs_ok:SpecOk Tryz.prog 14 (wIs17 isTr) :=
  specK_ok (envOk (S:=[]) tysR_ok trivial) mixed Tryz.func14 rfl (by decide) (by decide) fun (f:Int) _ _=>⟨fun _=>none,0,by
    show execF _ _ _ _ _ (fun t=>t=bT (isTr f))
    refine (rIs_vc f _).mpr (br_intro (fun h=>?_) fun h=>?_)<;>rw [isTr,h]<;>rfl⟩
def encTr(f x p:Int):Vx×Int :=
  if isTr f=true∧8≤p∧p≤2048 then
    if fexp x=2047 then (zeroIv,5) else
    if (bothTr (fltD x) p).2=0 then
      if f=14 then (trimV (bothTr (fltD x) p).1.2 (p+8),0) else
      if f=15 then (trimV (divV (bothTr (fltD x) p).1.1 (bothTr (fltD x) p).1.2 (p+24)) (p+8),0) else
      (trimV (bothTr (fltD x) p).1.1 (p+8),0)
    else (zeroIv,(bothTr (fltD x) p).2)
  else (zeroIv,2)
theorem flt_z{x:Int}(e:¬ fexp x=2047){p:Int}(p0:8≤p)(p1:p≤2048)(h:(bothTr (fltD x) p).2=0):Off0 (bothTr (fltD x) p).1.2∧(bothTr (fltD x) p).1.2.lo.rv≤(bothTr (fltD x) p).1.2.hi.rv:=by
  have h0:(quarR (fltD x) (p+32)).2.2=0:=by
    unfold bothTr at h;split at h
    · assumption
    · exact h
  obtain ⟨S,C,n,F⟩:=flt_pair (fltD_f x) (fltD_bd e) p0 (by omega) h0
  obtain ⟨hs,hc⟩:=F.half
  rw [bothTr_eq F h0]
  obtain ⟨_,xc⟩:=turn_half hs hc (n % 4)
  refine ⟨?_,xc.e.self⟩
  have oc:=vm_off F.c
  rcases F.s with ⟨_,rfl,_⟩|⟨_,sv⟩
  · rw [show (0:Int) % 4=0 from rfl,tr0];exact oc
  · have os:=vm_off sv
    rcases (show n % 4=0∨n % 4=1∨n % 4=2∨n % 4=3 by omega) with k | k | k | k<;>rw [k]
    · rw [tr0];exact oc
    · rw [tr1];exact os.turn hs.p
    · rw [tr2];exact oc.turn hc.p
    · rw [tr3];exact os
def rEp:Spec:=specK [.i .u8,.i .u64,.i .i64] fun (f x p:Int)=>(some (Word x),reT (encTr f x p))
theorem sEp17_ok:SpecsOk Tryz.prog (sEp17 isTr fromR bothTr trimV divV):=⟨rIs_ok,dFrom_ok,rDiv_ok,rBo_ok,rTrim_ok,trivial⟩
theorem rEp_ok:SpecOk Tryz.prog 10 rEp :=
  specKW_ok (envOk tysR_ok sEp17_ok) mixed Tryz.func10 rfl (by decide) (by decide) fun (f:Int) _ (x:Int) _ (p:Int) _ hp=>⟨fun _=>none,0,by
    have hw:Word x:=hp
    show execF _ _ _ _ _ (fun t=>t=reT (encTr f x p)∨fgT t=reT (encTr f x p))
    refine (rEp_vc f x p isTr fromR bothTr trimV divV _).mpr (br_intro (fun h=>.inr ?_) fun h=>br_intro (fun h'=>.inr ?_) fun h'=>br_intro (fun h''=>.inr ?_) fun h''=>⟨hw,br_intro (fun k=>.inr ?_) fun k=>?_⟩)
    · rw [encTr,if_neg (by rw [not_true h];simp)];rfl
    · have:=ltI_true.1 h'
      rw [encTr,if_neg (by omega)];rfl
    · have:=ltI_true.1 h''
      rw [encTr,if_neg (by omega)];rfl
    · have c:isTr f=true∧8≤p∧p≤2048:=⟨not_false' h,by have:=ltI_false.1 h';omega,by have:=ltI_false.1 h'';omega⟩
      have k:=neI_true.1 k
      have e:fexp x=2047:=Classical.byContradiction fun c=>k (by rw [fromR,if_neg c])
      rw [encTr,if_pos c,if_pos e,fromR,if_pos e];rfl
    have c:isTr f=true∧8≤p∧p≤2048:=⟨not_false' h,by have:=ltI_false.1 h';omega,by have:=ltI_false.1 h'';omega⟩
    have k:=neI_false.1 k
    have e:¬ fexp x=2047:=fun c=>by rw [fromR,if_pos c] at k;cases k
    have ef:fromR x=(fltD x,0):=by rw [fromR,if_neg e]
    rw [ef]
    refine ⟨⟨by omega,by omega⟩,br_intro (fun z=>.inr ?_) fun z=>?_⟩
    · rw [encTr,if_pos c,if_neg e,if_neg (neI_true.1 z)];rfl
    have z:=neI_false.1 z
    obtain ⟨s,t,hs,ht⟩:=bothTr_right (fltD_p x) c.2.1 (by omega) z
    obtain ⟨oz,lz⟩:=flt_z e c.2.1 c.2.2 z
    have ss:=right_sm hs.r
    have st:=right_sm ht.r
    have zm:(bothTr (fltD x) p).1.2.lo.m≠0∧(bothTr (fltD x) p).1.2.hi.m≠0:=by
      rcases oz with o | o
      · exact ⟨rv_ne (by grind),rv_ne (by grind)⟩
      · exact ⟨rv_ne (by grind),rv_ne (by grind)⟩
    have sd:=divV_sm (p:=p+24) hs.p ht.p ss st (by omega) (by omega)
    refine br_intro (fun f1=>⟨⟨by omega,by omega⟩,⟨st.mono (by omega),by omega,by omega⟩,.inr ?_⟩) fun f1=>br_intro (fun f2=>⟨⟨by omega,by omega⟩,⟨ss.mono (by omega),st.mono (by omega),zm.1,zm.2,by omega,by omega⟩,⟨by omega,by omega⟩,⟨sd.mono (by omega),by omega,by omega⟩,.inr ?_⟩) fun f2=>⟨⟨by omega,by omega⟩,⟨ss.mono (by omega),by omega,by omega⟩,.inr ?_⟩
    · rw [encTr,if_pos c,if_neg e,if_pos z,if_pos (eqI_true.1 f1)];rfl
    · rw [encTr,if_pos c,if_neg e,if_pos z,if_neg (eqI_false.1 f1),if_pos (eqI_true.1 f2)];rfl
    · rw [encTr,if_pos c,if_neg e,if_pos z,if_neg (eqI_false.1 f1),if_neg (eqI_false.1 f2)];rfl⟩
def sLv17(fE:Int→Int→Int→Vx×Int)(fI:Int→Dx)(fH:Vx→Dx→Bool)(fS:Vx→Vx→Bool)(fN:Vx→Int→Bool)(fO:Dx→Dx→Int)(is:Int→Bool):List (FuncId×Spec):=[(10,specK [.i .u8,.i .u64,.i .i64] fun (f x p:Int)=>(some (Word x),reT (fE f x p))),(22,specK [.i .i64] fun (n:Int)=>(some (inR n),dT (fI n))),(54,specK [.v,.d] fun (v:Vx) (d:Dx)=>(none,bT (fH v d))),(53,xVVb fS),(55,xVIb fN),(29,xDDi fO),(14,wIs17 is)]
theorem lLv17_vc(fE:Int→Int→Int→Vx×Int)(fI:Int→Dx)(fH:Vx→Dx→Bool)(fS:Vx→Vx→Bool)(fN:Vx→Int→Bool)(fO:Dx→Dx→Int)(is:Int→Bool)(Q:Tv→Prop):execF ⟨tysR,sLv17 fE fI fH fS fN fO is⟩ (fun _=>none) 0 Tryz.f13 [] Q=(Word 0∧Word 0∧Word 4607182418800017408∧Word 9218868437227405312∧br (eqI (fE 13 0 64).snd 0) (br (fS (fE 13 0 64).fst (Vx.mk (Dx.mk false [] 0) (Dx.mk false [] 0))) (br (eqI (fE 14 0 64).snd 0) (inR 1∧br (fH (fE 14 0 64).fst (fI 1)) (br (eqI (fE 15 4607182418800017408 64).snd 0) (inR 1∧(Dx.Sm 34359738368 (fE 15 4607182418800017408 64).fst.lo∧Dx.Sm 34359738368 (fI 1))∧br (ltI 0 (fO (fE 15 4607182418800017408 64).fst.lo (fI 1))) (br (fN (fE 15 4607182418800017408 64).fst 64) (br (eqI (fE 15 9218868437227405312 64).snd 5) (true=true∧Q (bT (is 15))) (true=true∧Q (bT false))) (true=true∧Q (bT false))) (true=true∧Q (bT false))) (true=true∧Q (bT false))) (true=true∧Q (bT false))) (true=true∧Q (bT false))) (true=true∧Q (bT false))) (true=true∧Q (bT false))):=by kernel_rfl
def hBu17:Spec:=specK [.d,.i .i64] fun (x:Dx) (p:Int)=>(none,reT2 (bothHr x p))
theorem sBu17_ok:SpecsOk Tryz.prog (sBu17 Dx.fitsB hquR (fun v p=>(sinesH v p,cosinesH v p)) (fun v p=>preS v.lo p∧preS v.hi p)):=⟨fRight_ok,hQu_ok,hOver_ok,gNeg_ok,trivial⟩
theorem hBu17_ok:SpecOk Tryz.prog 38 hBu17 :=
  specKW_ok (envOk tysR_ok sBu17_ok) mixed Tryz.func38 rfl (by decide) (by decide) fun (x:Dx) hw (p:Int) _ _=>⟨fun _=>none,0,by
    have hx:=Dx.Wf.m0 hw
    show execF _ _ _ _ _ (fun t=>t=reT2 (bothHr x p)∨fgT t=reT2 (bothHr x p))
    refine (hBu17_vc x p Dx.fitsB hquR (fun v p=>(sinesH v p,cosinesH v p)) (fun v p=>preS v.lo p∧preS v.hi p) _).mpr (br_intro (fun h=>.inr ?_) fun h=>br_intro (fun h'=>.inr ?_) fun h'=>br_intro (fun h''=>.inr ?_) fun h''=>⟨?_,br_intro (fun k=>.inr ?_) fun k=>?_⟩)
    · rw [bothHr,if_neg (fun c=>by rw [not_true h] at c;exact absurd c.1 (by simp))];rfl
    · have:=ltI_true.1 h'
      rw [bothHr,if_neg (by omega)];rfl
    · have:=ltI_true.1 h''
      rw [bothHr,if_neg (by omega)];rfl
    all_goals
      have c:x.fitsB=true∧8≤p∧p≤2048:=⟨not_false' h,by have:=ltI_false.1 h';omega,by have:=ltI_false.1 h'';omega⟩
    · exact ⟨by omega,by omega⟩
    · rw [bothHr,if_pos c,if_neg (neI_true.1 k)];rfl
    have k:=neI_false.1 k
    obtain ⟨n,kn,H,D⟩:=doc_pair hx c.2.1 c.2.2 k
    have pre:=hnum_pre H (q:=p+24) (by omega) (by omega)
    have e1:eB 4611686018427387904 (sinesH (hquR x (p+24)).2.1 (p+24)).lo∧eB 4611686018427387904 (sinesH (hquR x (p+24)).2.1 (p+24)).hi:=⟨D.us.1.eB (by omega),D.us.2.eB (by omega)⟩
    have e2:eB 4611686018427387904 (cosinesH (hquR x (p+24)).2.1 (p+24)).lo∧eB 4611686018427387904 (cosinesH (hquR x (p+24)).2.1 (p+24)).hi:=⟨D.ws.1.eB (by omega),D.ws.2.eB (by omega)⟩
    have eq:bothHr x p=(turnP (hquR x (p+24)).1 (sinesH (hquR x (p+24)).2.1 (p+24),cosinesH (hquR x (p+24)).2.1 (p+24)),0):=by rw [bothHr,if_pos c,if_pos k]
    rw [eq]
    refine ⟨⟨by omega,by omega⟩,pre,br_intro (fun z=>⟨e1,rfl,.inr ?_⟩) fun z1=>br_intro (fun z=>⟨e1,e2,rfl,.inr ?_⟩) fun z2=>br_intro (fun z=>⟨e2,rfl,.inr ?_⟩) fun z3=>⟨rfl,.inl ?_⟩⟩
    · rw [turnP,if_pos (eqI_true.1 z)];rfl
    · rw [turnP,if_neg (eqI_false.1 z1),if_pos (eqI_true.1 z)];rfl
    · rw [turnP,if_neg (eqI_false.1 z1),if_neg (eqI_false.1 z2),if_pos (eqI_true.1 z)];rfl
    · rw [turnP,if_neg (eqI_false.1 z1),if_neg (eqI_false.1 z2),if_neg (eqI_false.1 z3)];rfl⟩
theorem bothHr_ok{x:Dx}(hx:0≤x.m){p:Int}(p0:8≤p)(p1:p≤2048):WOk (bothHr x p).1.1∧WOk (bothHr x p).1.2:=by
  have z:WOk zeroIv:=⟨zero_P,zero_sm,.inl rfl,Rat.le_refl⟩
  unfold bothHr
  split
  · split
    · rename_i c h
      obtain ⟨n,kn,H,D⟩:=doc_pair hx p0 p1 h
      have tu:=WOk.turn D.u.p D.us D.u.o D.u.l
      have tw:=WOk.turn D.w.p D.ws D.w.o D.w.l
      show WOk (turnP _ _).1∧WOk (turnP _ _).2
      unfold turnP
      split
      · exact ⟨D.w,tu⟩
      split
      · exact ⟨tu,tw⟩
      split
      · exact ⟨tw,D.u⟩
      · exact ⟨D.u,D.w⟩
    · exact ⟨z,z⟩
  · exact ⟨z,z⟩
def topX(x:Dx):Int:=x.e+blen x.m-1
def freeB(x:Dx):Bool:=x.fitsB && (!x.zeroB && (!leI 1024 (topX x) && (ltI (topX x) (-16384) || hardB x)))
theorem inX_top{x:Dx}(hx:0≤x.m)(hf:x.fitsB=true)(ht:topX x<1024):inX x:=by
  obtain ⟨a1,a2⟩:=rv_amt hx
  have l:=amt_lt (m:=x.m) (e:=x.e)
  have le:x.e+(blen x.m:Int)≤1024:=by unfold topX at ht;omega
  have l2:(x.m:Rat)*p2 x.e<p2 (1024:Nat):=by
    have:=p2_le le
    have e:p2 ((1024:Nat):Int)=p2 1024:=rfl
    rw [e];grind
  have n0:0≤(x.m:Rat)*p2 x.e:=rmN (by exact_mod_cast hx) (rlL (p2_pos _))
  refine ⟨fits_bd hf,?_,?_⟩
  · rcases (show 0≤x.rv∨x.rv≤0 by grind) with c | c
    · rw [a1 c];exact l2
    · grind
  · rcases (show 0≤x.rv∨x.rv≤0 by grind) with c | c
    · grind
    · have:=a2 c;grind
def lFe:Spec:=specK [.d] fun (x:Dx)=>(none,bT (freeB x))
theorem sFe_ok:SpecsOk Tryz.prog (sFe Dx.fitsB Dx.zeroB topX hardB inX):=⟨fRight_ok,fZero_ok,fTop_ok,hHard_ok,trivial⟩
theorem lFe_ok:SpecOk Tryz.prog 17 lFe :=
  specK_ok (envOk tysR_ok sFe_ok) mixed Tryz.func17 rfl (by decide) (by decide) fun (x:Dx) hw _=>⟨fun _=>none,0,by
    have hx:=Dx.Wf.m0 hw
    show execF _ _ _ _ _ (fun t=>t=bT (freeB x))
    refine (lFe_vc x Dx.fitsB Dx.zeroB topX hardB inX _).mpr (br_intro (fun h=>?_) fun h=>br_intro (fun k=>?_) fun k=>⟨?_,br_intro (fun t=>?_) fun t=>⟨?_,br_intro (fun u=>?_) fun u=>⟨?_,?_⟩⟩⟩)
    · rw [freeB,not_true h];rfl
    · rw [freeB,not_false' h,k];rfl
    · exact (fits_sm (not_false' h)).eB (by omega)
    · rw [freeB,not_false' h,k,t];rfl
    · exact (fits_sm (not_false' h)).eB (by omega)
    · rw [freeB,not_false' h,k,t,u];rfl
    · exact inX_top hx (not_false' h) (by have:=leI_false.1 t;omega)
    · rw [freeB,not_false' h,k,t,u];rfl⟩
inductive LikeOk (v:Vx) (why:Int) (u:Vx) (no p:Int) (free:Bool):Prop where
  | many (hs:sameV v zeroIv=true) (hf:free=true) (hn:no=0∨no=6) (hw:why=6∨why=3)
  | hard (hf:free=true) (hn:no=6) (hw:why=0)
  | both (hn:no=0) (hw:why=0) (su:u.Sm 34359738368) (e:enclB v u p=true)
  | none (hs:sameV v zeroIv=true) (hn:no≠0) (hf:free=true→no≠6) (hw:why=no)
def lLk17:Spec:=specK [.v,.i .i64,.v,.i .i64,.i .i64,.b] fun (v:Vx) (why:Int) (u:Vx) (no p:Int) (free:Bool)=>(some (LikeOk v why u no p free),bT true)
theorem sLk17_ok:SpecsOk Tryz.prog (sLk17 sameV rightV enclB):=⟨gSame_ok,gRight_ok,hEncl_ok,trivial⟩
theorem lLk17_ok:SpecOk Tryz.prog 16 lLk17 :=
  specK_ok (envOk tysR_ok sLk17_ok) mixed Tryz.func16 rfl (by decide) (by decide) fun (v:Vx) _ (why:Int) _ (u:Vx) _ (no:Int) _ (p:Int) _ (free:Bool) _ hp=>⟨fun _=>none,0,by
    have hp:LikeOk v why u no p free:=hp
    show execF _ _ _ _ _ (fun t=>t=bT true)
    refine (lLk17_vc v why u no p free sameV rightV enclB _).mpr ?_
    have z:(⟨⟨false,[],0⟩,⟨false,[],0⟩⟩:Vx)=zeroIv:=rfl
    rw [z]
    cases hp with
    | many hs hf hn hw =>
      subst hf
      rw [hs]
      rcases hn with rfl | rfl<;>rcases hw with rfl | rfl<;>exact rfl
    | hard hf hn hw=>subst hf;subst hn;subst hw;exact rfl
    | both hn hw su e =>
      subst hn;subst hw
      rw [e]
      cases free with
      | true =>
        show br (!rightV u) (bT true=bT true) (u.Sm 34359738368∧bT true=bT true)
        exact br_intro (fun _=>rfl) fun _=>⟨su,rfl⟩
      | false=>exact ⟨su,rfl⟩
    | none hs hn hf hw =>
      subst hw
      rw [hs,show neI why 0=true from neI_true.2 hn,show eqI why 0=false from eqI_false.2 hn,show eqI why why=true from eqI_true.2 rfl]
      cases free with
      | true=>rw [show eqI why 6=false from eqI_false.2 (hf rfl)];exact rfl
      | false=>exact rfl⟩
theorem flt_zero:fltD 0=⟨false,[],0⟩:=by rw [fltD,mkD_K];kernel_rfl
theorem flt_one:fltD 4607182418800017408=⟨false,[1],0⟩:=by rw [fltD,mkD_K];kernel_rfl
theorem zero_f2:OneF ⟨false,[],0⟩:=⟨false,0,0,by decide,rfl⟩
theorem quar_zero{p:Int}(p0:8≤p)(p1:p≤3968):(quarR ⟨false,[],0⟩ p).2.2=0:=by
  have c:condQ ⟨false,[],0⟩ p:=⟨by rw [fits_K];decide +kernel,p0,p1⟩
  have o:oneD (⟨false,[],0⟩:Dx)=⟨false,[],0⟩:=oneD_id zero_f2
  rcases quar_cases ⟨false,[],0⟩ p with ⟨k,_⟩|⟨_,_,q⟩|⟨_,k,_⟩|⟨_,k,_⟩|⟨_,k,_⟩
  · exact absurd c k
  · rw [q]
  all_goals (rw [o] at k;exact absurd rfl k)
theorem encTr_0{x p:Int}(e:¬ fexp x=2047)(p0:8≤p)(p1:p≤2048){S C:Vx}{n:Int}(F:FltPair (fltD x) p S C n)(h0:(quarR (fltD x) (p+32)).2.2=0) :
    encTr 13 x p=(trimV (turnP (n % 4) (S,C)).1 (p+8),0)∧encTr 14 x p=(trimV (turnP (n % 4) (S,C)).2 (p+8),0)∧encTr 15 x p=(trimV (divV (turnP (n % 4) (S,C)).1 (turnP (n % 4) (S,C)).2 (p+24)) (p+8),0):=by
  have b:=bothTr_eq F h0
  refine ⟨?_,?_,?_⟩
  · rw [encTr,if_pos ⟨rfl,p0,p1⟩,if_neg e,b,if_pos rfl,if_neg (by decide),if_neg (by decide)]
  · rw [encTr,if_pos ⟨rfl,p0,p1⟩,if_neg e,b,if_pos rfl,if_pos rfl]
  · rw [encTr,if_pos ⟨rfl,p0,p1⟩,if_neg e,b,if_pos rfl,if_neg (by decide),if_pos rfl]
theorem lv_zero:encTr 13 0 64=(zeroIv,0)∧(encTr 14 0 64).2=0∧hasV (encTr 14 0 64).1 (mkS 1 0)=true:=by
  have e:¬ fexp 0=2047:=by decide
  have h0:(quarR (fltD 0) (64+32)).2.2=0:=by rw [flt_zero];exact quar_zero (by decide) (by decide)
  obtain ⟨S,C,n,F⟩:=flt_pair (fltD_f 0) (fltD_bd e) (p:=64) (by decide) (by decide) h0
  obtain ⟨e3,e4,_⟩:=encTr_0 e (p:=64) (by decide) (by decide) F h0
  have z:(fltD 0).rv=0:=by rw [flt_zero];exact zero_rv
  rcases F.s with ⟨_,rfl,rfl⟩|⟨k,_⟩
  rotate_left
  · exact absurd z k
  obtain ⟨_,hc⟩:=F.half
  have er:cosQ (rhS (fltD 0).rv 0)=cosS 0:=funext fun i=>by
    have:rhS (fltD 0).rv 0 i=0:=by
      unfold rhS;rw [z]
      have:((0:Int):Rat)=0:=rfl
      rw [this];grind
    unfold cosQ;rw [this]
  have en:=hc.e
  rw [er] at en
  have i:InV C 1:=⟨en.meets enc_cos0,enc_cos0.meets en⟩
  rw [e3,e4,show (0:Int) % 4=0 from rfl,tr0]
  refine ⟨by rw [trim_zero _ (by decide)],rfl,hasV_of ?_ one_fits (by rw [rv_int];exact trim_in2 hc.p (by decide) i)⟩
  exact (encl_parts (half_encl (p:=64) hc hc.e (by decide) (rlL (p2_pos _)) Rat.le_refl)).1
theorem quar_one:(quarR ⟨false,[1],0⟩ 96).2.2=0∧(quarR ⟨false,[1],0⟩ 96).1=1:=by
  have f1:OneF ⟨false,[1],0⟩:=lit_f (by decide) (by decide) (by decide)
  have o1:=oneD_id f1
  have r1:(⟨false,[1],0⟩:Dx).rv=1:=by rw [lit_rv,p2_v.1];decide +kernel
  have t1:topD ⟨false,[1],0⟩=0:=by decide +kernel
  have k1:(⟨false,[1],0⟩:Dx).fitsB=true:=by rw [fits_K];decide +kernel
  have hf:=halfP_hf (w:=160) (by decide) (by decide)
  obtain ⟨c,hc,c1,c2⟩:=hf.mid
  have ed:p2 (-3-160)/2+eps 160≤1/1000:=by decide +kernel
  have eE:2*(1*(p2 (-3-160)/2)+eps 160*(1+8*1))≤p2 (-2-96):=by decide +kernel
  have i0:0<c:=by grind
  have ic:=Rat.inv_mul_cancel c (by grind)
  have ip:=Rat.inv_pos.2 i0
  have j1:(6:Rat)/10≤c⁻¹:=by
    rw [←Rat.not_lt];intro hlt
    have:=Rat.mul_lt_mul_of_pos_right hlt i0
    grind
  have j2:c⁻¹≤7/10:=by
    rw [←Rat.not_lt];intro hlt
    have:=Rat.mul_lt_mul_of_pos_right hlt i0
    grind
  have e1:((1:Int):Rat)=1:=rfl
  obtain ⟨s1,s2,s3,s4⟩:=quart_ok hf (x:=⟨false,[1],0⟩) f1.p (w:=160) (by decide) (by decide) (A:=1) (B:=1) hc (by rw [r1];decide) (by rw [r1];decide) (m:=1) (a:=-2) (p:=96) (by decide) (by decide) (by rw [r1,e1];grind) (by rw [r1,e1];grind) (by decide +kernel) (by decide +kernel) (.inr (by
    rw [r1,e1,show (-2:Int)+1 = -1 by decide,p2_v.2.2.1];grind)) (by decide) eE (by decide) (by decide)
  obtain ⟨ok,e⟩:=okW_of s1 s3 s4
  have en:by4I (nW (halfP 160) ⟨false,[1],0⟩ 160)=1:=by rw [by4_mod,s2];rfl
  have q:quarR ⟨false,[1],0⟩ 96=(1,restW (halfP 160) ⟨false,[1],0⟩ 160,0):=by
    rw [quarR,o1,if_pos ⟨k1,by decide,by decide⟩,if_neg (by decide +kernel),t1,if_neg (by decide)]
    show quarL _ 96 (8+1) (0+96+64)=_
    rw [quarL,show min (0+96+64:Int) 8192=160 by decide,if_pos ok,e,en]
  rw [q];exact ⟨rfl,rfl⟩
theorem lv_tan:(encTr 15 4607182418800017408 64).2=0∧0<cmpD (encTr 15 4607182418800017408 64).1.lo (mkS 1 0)∧narrowB (encTr 15 4607182418800017408 64).1 64=true∧(encTr 15 4607182418800017408 64).1.Sm 65536:=by
  have e:¬ fexp 4607182418800017408=2047:=by decide
  obtain ⟨q0,q1⟩:=quar_one
  have r1:(⟨false,[1],0⟩:Dx).rv=1:=by rw [lit_rv,p2_v.1];decide +kernel
  have h0:(quarR (fltD 4607182418800017408) (64+32)).2.2=0:=by rw [flt_one];exact q0
  obtain ⟨S,C,n,F⟩:=flt_pair (fltD_f 4607182418800017408) (fltD_bd e) (p:=64) (by decide) (by decide) h0
  obtain ⟨_,_,e5⟩:=encTr_0 e (p:=64) (by decide) (by decide) F h0
  have dr:(fltD 4607182418800017408).rv=1:=by rw [flt_one];exact r1
  have nk:n % 4=1:=by
    have:=F.k
    rw [flt_one] at this
    rw [←this];exact q1
  have n1:n=1:=by
    rcases F.qn.near with ⟨a,_⟩|⟨w,w0,w1,f⟩
    · rw [dr] at a;exact absurd a (by decide +kernel)
    · have hf:=halfP_hf w0 (show w≤65000 by omega)
      have g:=f (halfP w).lo.rv ⟨Rat.le_refl,hf.le⟩
      have lo:=hf.lo
      have i0:0<(halfP w).lo.rv:=by grind
      have ip:=Rat.inv_pos.2 i0
      have ic:=Rat.inv_mul_cancel (halfP w).lo.rv (by grind)
      have j:(halfP w).lo.rv⁻¹≤1:=by
        rw [←Rat.not_lt];intro hlt
        have:=Rat.mul_lt_mul_of_pos_right hlt i0
        grind
      rw [dr,Rat.one_mul] at g
      have a1:(-1:Int)<n:=by
        have:((-1:Int):Rat)<(n:Rat):=by
          have c:((-1:Int):Rat) = -1:=rfl
          rw [c];have:=g.2.1;grind
        exact_mod_cast this
      have a2:n<2:=by
        have:(n:Rat)<((2:Int):Rat):=by
          have c:((2:Int):Rat)=2:=rfl
          rw [c];have:=g.1;grind
        exact_mod_cast this
      omega
  obtain ⟨hs,hc⟩:=F.half
  obtain ⟨z,i1,i2,z1,z2⟩:∃ z,(quarR (fltD 4607182418800017408) (64+32)).2.1.lo.rv≤z∧z≤(quarR (fltD 4607182418800017408) (64+32)).2.1.hi.rv∧-(572/1000)≤z∧z≤-(57/100):=by
    have en:=F.qn.enc
    rw [dr,n1] at en
    have ep:Enc (rhS 1 1) (-(5709/10000)) (-(5707/10000)):=by
      have a:=((piS_enc.scale (c:=1/2) (by decide +kernel)).neg).add (Enc.const 1)
      have eq:(fun n=>-(1/2*piS n)+1)=rhS 1 1:=funext fun i=>by
        unfold rhS
        have:((1:Int):Rat)=1:=rfl
        rw [this];grind
      rw [eq] at a
      exact a.wide (by decide +kernel) (by decide +kernel)
    have m1:=en.meets ep
    have m2:=ep.meets en
    have le:=en.self
    by_cases c:(quarR (fltD 4607182418800017408) (64+32)).2.1.lo.rv≤-(5709/10000)
    · exact ⟨-(5709/10000),c,m2,by decide +kernel,by decide +kernel⟩
    · exact ⟨_,Rat.le_refl,le,by grind,by grind⟩
  have es:=(F.K.sin z i1 i2).neg
  have ec:=F.K.cos z i1 i2
  have en:(fun n=>-sinS z n)=sinS (-z):=funext fun n=>(sinS_neg z n).symm
  rw [en] at es
  obtain ⟨b1,b2⟩:=sinS_bd (t:=-z) (by grind) (by grind) es
  obtain ⟨b3,b4⟩:=cosS_bd (t:=z) (by grind) (by grind) ec
  have zz:z*z≤4/10:=by
    have:=(show Ab z (572/1000) from ⟨by grind,by grind⟩).sq
    have e:(572:Rat)/1000*(572/1000)≤4/10:=by decide +kernel
    grind
  have eta:p2 (-19-64)≤1/1000:=by decide +kernel
  have cn:=F.K.cn
  have C1:78/100≤C.lo.rv:=by
    have m:=rmR eta (rlL cn.1)
    have:=cn.2.2
    have c1:=F.K.c1
    grind
  have S1:S.hi.rv<0∧-S.lo.rv≤6/10:=by
    rcases F.s with ⟨a,_⟩|⟨_,sv⟩
    · rw [dr] at a;exact absurd a (by decide +kernel)
    · rcases sv with v | v
      · exfalso
        have:=v.nar.1
        have:=sinS_bd0 (t:=-z) (by grind) (by grind) es
        grind
      · have m:=rmR eta (rlL v.nar.1)
        have:=v.nar.2.2
        have:=v.nar.1
        exact ⟨by grind,by grind⟩
  obtain ⟨A,hA⟩:∃ A:Int,A = -8263:=⟨_,rfl⟩
  have sv:VM (p2 (-19-64)) (p2 A) (p2 5) S:=by
    rcases F.s with ⟨a,_⟩|⟨_,sv⟩
    · rw [dr] at a;exact absurd a (by decide +kernel)
    · rw [hA];exact sv
  obtain ⟨off,fin⟩:=quo_fin (A:=-3) (B:=3) (C:=A) (D:=5) (p:=64) (q:=64+24) hc.p (turnV_P S) (divV_p _ _ _) F.c (sv.turn hs.p) (rlL (p2_pos _)) Rat.le_refl (by decide) (by decide) (by decide) (by omega) (by omega)
  rw [e5,nk,tr1]
  have tr:=turn_rv hs.p
  have le:=hs.e.self
  have iz:InV (turnV S) (-S.lo.rv):=⟨by rw [tr.1];grind,by rw [tr.2];exact Rat.le_refl⟩
  have ix:InV C C.lo.rv:=⟨Rat.le_refl,hc.e.self⟩
  have iy:=trim_in2 (p:=64+8) (divV_p C (turnV S) (64+24)) (by decide) (div_in hc.p (turnV_P S) off (by decide) ix iz)
  have y0:0 < -S.lo.rv:=by have:=S1.1;grind
  have yc:=Rat.inv_mul_cancel (-S.lo.rv) (by grind)
  have big:13/10≤C.lo.rv*(-S.lo.rv)⁻¹:=by
    rw [←Rat.not_lt];intro hlt
    have m:=Rat.mul_lt_mul_of_pos_right hlt y0
    rw [Rat.mul_assoc,yc,Rat.mul_one] at m
    have:=S1.2
    grind
  have vn:=nar_of_narrow fin.q fin.n
  have e64:p2 (-64)≤1/100:=by decide +kernel
  have r1':(mkS 1 0).rv=1:=rv_int 1
  refine ⟨rfl,cmpD_gt0.2 ?_,fin.n,right_sm fin.r⟩
  rw [r1']
  have i2:=iy.2
  rcases vn with ⟨a,b⟩|⟨a,b,c⟩|⟨a,b,c⟩
  · exfalso;grind
  · have m:=rmR e64 (rlL a)
    grind
  · exfalso;grind
theorem sLv17_ok:SpecsOk Tryz.prog (sLv17 encTr (fun n=>mkS n 0) hasV sameV narrowB cmpD isTr):=⟨rEp_ok,fInt_ok,gHas_ok,gSame_ok,gNarrow_ok,fOrder_ok,rIs_ok,trivial⟩
theorem lLv17_ok:SpecOk Tryz.prog 13 wTrue :=
  specK_ok (envOk tysR_ok sLv17_ok) mixed Tryz.func13 rfl (by decide) (by decide) fun _=>⟨fun _=>none,0,by
    show execF _ _ _ _ _ (fun t=>t=bT true)
    have z:(⟨⟨false,[],0⟩,⟨false,[],0⟩⟩:Vx)=zeroIv:=rfl
    obtain ⟨a1,a2,a3⟩:=lv_zero
    obtain ⟨b1,b2,b3,b4⟩:=lv_tan
    have c1:(encTr 15 9218868437227405312 64).2=5:=by rw [encTr,if_pos ⟨rfl,by decide,by decide⟩,if_pos (by decide)]
    refine (lLv17_vc encTr (fun n=>mkS n 0) hasV sameV narrowB cmpD isTr _).mpr ⟨⟨by omega,by omega⟩,⟨by omega,by omega⟩,⟨by omega,by omega⟩,⟨by omega,by omega⟩,?_⟩
    rw [a1,z,sameV_refl,a2,a3,b1,ltI_true.2 b2,b3,c1]
    exact ⟨⟨by omega,by omega⟩,⟨by omega,by omega⟩,⟨b4.1.mono (by omega),(mkS_sm6 (n:=1) (by omega)).mono (by omega)⟩,rfl,rfl⟩⟩
theorem hard_ne{d:Dx}(h:hardB d=true):d.zeroB=false:=by
  unfold hardB at h
  rw [Bool.and_eq_true] at h
  exact not_true h.1
def sBt17(fB hB:Dx→Int→(Vx×Vx)×Int)(fZ:Dx→Bool)(fT:Dx→Int)(fF:Dx→Bool)(lk:Vx→Int→Vx→Int→Int→Bool→Prop):List (FuncId×Spec):=[(37,specK [.d,.i .i64] fun (x:Dx) (p:Int)=>(none,reT2 (fB x p))),(38,specK [.d,.i .i64] fun (x:Dx) (p:Int)=>(none,reT2 (hB x p))),(13,wTrue),(39,specK [.d] fun (x:Dx)=>(none,bT (fZ x))),(31,specK [.d] fun (x:Dx)=>(some (eB 2305843009213693952 x),iT (fT x))),(17,specK [.d] fun (x:Dx)=>(none,bT (fF x))),(16,specK [.v,.i .i64,.v,.i .i64,.i .i64,.b] fun (v:Vx) (why:Int) (u:Vx) (no p:Int) (free:Bool)=>(some (lk v why u no p free),bT true))]
theorem lBt17_vc(x:Dx)(p:Int)(fB hB:Dx→Int→(Vx×Vx)×Int)(fZ:Dx→Bool)(fT:Dx→Int)(fF:Dx→Bool)(lk:Vx→Int→Vx→Int→Int→Bool→Prop)(Q:Tv→Prop):execF ⟨tysR,sBt17 fB hB fZ fT fF lk⟩ (fun _=>none) 0 Tryz.f8 [.agg (dyL false x),.one (.int .i64 p)] Q=(br (eqI (hB x p).snd 6) (lk (fB x p).fst.fst (fB x p).snd (hB x p).fst.fst (hB x p).snd p true∧lk (fB x p).fst.snd (fB x p).snd (hB x p).fst.snd (hB x p).snd p true∧Q (bT true)) (br (eqI (hB x p).snd 0) (br (neI (fB x p).snd 0) (lk (fB x p).fst.fst (fB x p).snd (hB x p).fst.fst (hB x p).snd p (fF x)∧lk (fB x p).fst.snd (fB x p).snd (hB x p).fst.snd (hB x p).snd p (fF x)∧Q (bT true)) (br (!fZ x) (eB 2305843009213693952 x∧br (ltI (fT x) (-16384)) (lk (fB x p).fst.fst (fB x p).snd (hB x p).fst.fst (hB x p).snd p (fF x)∧lk (fB x p).fst.snd (fB x p).snd (hB x p).fst.snd (hB x p).snd p (fF x)∧Q (bT true)) (lk (fB x p).fst.fst (fB x p).snd (hB x p).fst.fst (hB x p).snd p false∧lk (fB x p).fst.snd (fB x p).snd (hB x p).fst.snd (hB x p).snd p false∧Q (bT true))) (lk (fB x p).fst.fst (fB x p).snd (hB x p).fst.fst (hB x p).snd p false∧lk (fB x p).fst.snd (fB x p).snd (hB x p).fst.snd (hB x p).snd p false∧Q (bT true)))) (lk (fB x p).fst.fst (fB x p).snd (hB x p).fst.fst (hB x p).snd p false∧lk (fB x p).fst.snd (fB x p).snd (hB x p).fst.snd (hB x p).snd p false∧Q (bT true)))):=by kernel_rfl
theorem refH_4{c:Rat}(hc:InV (refH 3328) c):c*(1/2)≤4/5:=by
  have k:=refH_hf (w:=3328) (by decide) (by decide)
  have m1:=k.enc.meets piS_enc2
  have num:(((piN:Int)+2:Int):Rat)*p2 (-100)≤315/100:=by decide +kernel
  have nd:p2 (23-3328)/2≤1/100:=by decide +kernel
  have nr:=k.nar
  have h:=hc.2
  grind
theorem soft_amt{x:Dx}(hx:0≤x.m)(z:x.m≠0)(t:topD (oneD x)<1024)(hs:hardB x=false)(h0:x.rv≠0){p:Int}(p0:8≤p)(h:(quarR x p).2.2=0):p2 (-8258)≤(quarR x p).2.1.lo.rv∨p2 (-8258)≤-(quarR x p).2.1.hi.rv:=by
  obtain ⟨nv,w,w0,w1,e⟩:=quar_off hx h0 h
  have fy:OneF (oneD x):=oneD_f hx
  have ey:(oneD x).rv=x.rv:=rv_one hx
  obtain ⟨t1,t2⟩:=top_lt fy.p t
  rw [ey] at t1 t2
  have hf:=halfP_hf w0 (show w≤65000 by omega)
  obtain ⟨c,hc,hc',_,_⟩:=hf.common (refH_hf (w:=3328) (by decide) (by decide))
  have he:=eig_of_half (by decide) (by decide) hc'
  have far:=soft_far hx z hs (A:=p2 (1024:Nat)) (by decide +kernel) (by grind) (by grind) he (refH_4 hc')
  have ra:=rest_any hf.p fy.p (w:=w) (by omega) hc
  rw [←e] at ra
  generalize (quarR x p).2.1=R at *
  generalize nI (halfP w) (oneD x) w=n at *
  have f0:=far (2*n)
  have e2:((2:Int):Rat)=2:=rfl
  rw [rcM,e2] at f0
  have b0:x.rv-2*(n:Rat)*(c*(1/2))=x.rv-(n:Rat)*c:=by grind
  rw [b0] at f0
  rw [ey] at ra
  generalize x.rv-(n:Rat)*c=y at *
  have q1:p2 (-8258)≤p2 (-2048)/2:=by decide +kernel
  have qp:=p2_pos (-2048)
  have d1:p2 (-p)≤1:=by
    have:=p2_le (show -p≤0 by omega)
    rw [show p2 0=1 by decide +kernel] at this
    exact this
  obtain ⟨r1,r2⟩:=ra
  rcases nv with ⟨a,b,d⟩|⟨a,b,d⟩
  · have m:=rmR d1 (rlL a)
    refine .inl ?_
    rcases f0 with f | f<;>grind
  · have m:=rmR d1 (rlL a)
    refine .inr ?_
    rcases f0 with f | f<;>grind
theorem amt_both{x:Dx}(hx:0≤x.m)(h0:x.rv≠0){p:Int}(p0:8≤p)(p1:p≤2064)(h:(quarR x (p+32)).2.2=0)(am:p2 (-8258)≤(quarR x (p+32)).2.1.lo.rv∨p2 (-8258)≤-(quarR x (p+32)).2.1.hi.rv)(s1:small1 (quarR x (p+32)).2.1.lo)(s2:small1 (quarR x (p+32)).2.1.hi)(rr:rightV (quarR x (p+32)).2.1=true)(rq:(quarR x (p+32)).2.1.P) :
    ∃ S C,bothR (quarR x (p+32)).2.1 (p+24)=((S,C),0):=by
  obtain ⟨n,_⟩:=quar_off hx h0 h
  have f:=right_fits rr
  have F1:=fault_of (p:=p+24) rq.1 f.1 s1 (by omega) (by omega)
  have F2:=fault_of (p:=p+24) rq.2 f.2.1 s2 (by omega) (by omega)
  have d0:=rlL (p2_pos (-(p+32)))
  have dd:p2 (-(p+32))≤p2 (-(p+24)):=p2_le (by omega)
  obtain ⟨r,v⟩:=pair_vm rq F1 F2 n am (by decide) d0 dd
  rcases pair_ok rq rr F1 F2 (.inr n) d0 dd with ⟨_,k⟩|⟨e,K⟩
  · rw [r] at k;cases k
  · exact ⟨_,_,e⟩
theorem z_big{x:Dx}(hx:0≤x.m):(oneD x).m≠0↔x.m≠0:=by
  have e:(oneD x).m=0↔x.m=0:=mkD_m_zero hx
  exact ⟨fun h k=>h (e.2 k),fun h k=>h (e.1 k)⟩
theorem dy_codes{x:Dx}(hx:0≤x.m){p:Int}(f:x.fitsB=true)(p0:8≤p)(p1:p≤2048) :
    ((quarR x (p+32)).2.2=3∧(hquR x (p+24)).2.2=3)∨(((hquR x (p+24)).2.2=0∨(hquR x (p+24)).2.2=6)∧((quarR x (p+32)).2.2=0∨(quarR x (p+32)).2.2=6∧hardB x=true∧topD (oneD x)<1024)∧(x.m≠0→topD (oneD x)<1024)):=by
  have c:condQ x (p+32):=⟨f,by omega,by omega⟩
  have c':condQ x (p+24):=⟨f,by omega,by omega⟩
  have fq:=faultQ_eq hx (p+24)
  rw [if_pos c'] at fq
  by_cases b:(oneD x).m≠0∧1024≤topD (oneD x)
  · rw [if_pos b] at fq
    refine .inl ⟨?_,?_⟩
    · rcases quar_cases x (p+32) with ⟨k,_⟩|⟨_,k,_⟩|⟨_,_,_,q⟩|⟨_,_,k,_⟩|⟨_,_,k,_⟩
      · exact absurd c k
      · exact absurd k b.1
      · rw [q]
      · have:=b.2;omega
      · have:=b.2;omega
    · unfold hquR
      rw [fq];rfl
  · rw [if_neg b] at fq
    refine .inr ⟨?_,?_,fun z=>Classical.byContradiction fun k=>b ⟨(z_big hx).2 z,by omega⟩⟩
    · unfold hquR
      split
      · rw [fq];exact .inl rfl
      · rcases hquL_spec (x:=x) (p:=p+24) 9 (max (topD (oneD x)) 0+(p+24)+64) (by omega) with e | ⟨w,_,_,_,e⟩
        · rw [e];exact .inr rfl
        · rw [e];exact .inl rfl
    · rcases quar_cases x (p+32) with ⟨k,_⟩|⟨_,_,q⟩|⟨_,k,k',_⟩|⟨_,_,t,q⟩|⟨_,_,_,w,q⟩
      · exact absurd c k
      · rw [q];exact .inl rfl
      · exact absurd ⟨k,k'⟩ b
      · rcases ql x hx (p+32) with ⟨c,h1,_,hc⟩|⟨h1,_,_⟩|⟨_,_,hh,_,_⟩|⟨k,r,h1,_⟩
        · rw [q] at h1;cases h1;exact absurd rfl hc.2
        · rw [q] at h1;cases h1
        · rw [q];exact .inr ⟨rfl,hh,t⟩
        · rw [q] at h1;cases h1
      · rw [q.eq];exact .inl rfl
theorem pairq_half{x:Dx}{p n:Int}{S C:Vx}(h:PairQ x p n S C):Half (p2 (-19-p)) S (sinQ (rhS x.rv n))∧Half (p2 (-19-p)) C (cosQ (rhS x.rv n)):=by
  obtain ⟨R,K⟩:=h.k
  have c0:=K.c0
  have c1:=K.c1
  exact ⟨⟨K.sp,K.sf,K.sr,K.st,K.s32,h.s⟩,⟨K.cp,K.cf,K.cr,.inr (.inl K.cn),⟨by grind,by grind⟩,h.c⟩⟩
theorem dy_pair{x:Dx}(hx:0≤x.m){p:Int}(p0:8≤p)(p1:p≤2048)(h:(quarR x (p+32)).2.2=0)(ht:x.m≠0→topD (oneD x)<1024) :
    (bothTr x p=((zeroIv,zeroIv),3)∧hardB x=true∧x.m≠0)∨∃ S C n,bothTr x p=(turnP (n % 4) (S,C),0)∧PairQ x p n S C∧QNum x (p+32) (quarR x (p+32)).2.1 n:=by
  obtain ⟨n,kn,Q⟩:=quar_num hx h
  rcases qnum_pair Q p0 (by omega) with ⟨e,k⟩|⟨S,C,e,PQ,K⟩
  · refine .inl ⟨by rw [bothTr,if_pos h,e,if_neg (by decide)],?_⟩
    have z:x.m≠0:=fun z=>by
      have zm:(oneD x).m=0:=Classical.byContradiction fun k=>(z_big hx).1 k z
      have e0:(quarR x (p+32)).2.1=zeroIv:=by
        rcases quar_cases x (p+32) with ⟨_,q⟩|⟨_,_,q⟩|⟨_,k,_⟩|⟨_,k,_⟩|⟨_,k,_⟩
        · rw [q]
        · rw [q]
        all_goals exact absurd zm k
      rw [e0] at k
      have:sinesV (onesV zeroIv) (p+24)=zeroIv:=by
        have o:oneD (⟨false,[],0⟩:Dx)=⟨false,[],0⟩:=oneD_id ⟨false,0,0,by decide,rfl⟩
        have s:sineV ⟨false,[],0⟩ (p+24)=zeroIv:=by rw [sineV,if_pos (show Dx.zeroB ⟨false,[],0⟩=true from rfl)]
        show (⟨(sineV (oneD ⟨false,[],0⟩) (p+24)).lo,(sineV (oneD ⟨false,[],0⟩) (p+24)).hi⟩:Vx)=zeroIv
        rw [o,s]
      rw [this,trim_zero _ (by omega),zero_right] at k
      cases k
    refine ⟨?_,z⟩
    cases hs:hardB x with
    | true=>rfl
    | false =>
      exfalso
      have h0:x.rv≠0:=fun r=>z (zeroB_true.1 ((zeroB_rv hx).2 r))
      obtain ⟨s1,s2⟩:=small_of Q.enc.self Q.lo Q.hi
      obtain ⟨S,C,e'⟩:=amt_both hx h0 p0 (by omega) h (soft_amt hx z (ht z) hs h0 (by omega) h) s1 s2 Q.r Q.q
      rw [e'] at e;cases e
  · exact .inr ⟨S,C,n,by rw [bothTr,if_pos h,e,if_pos rfl,kn],PQ,Q⟩
theorem hard_free{x:Dx}(f:x.fitsB=true)(ht:topX x<1024)(h:hardB x=true):freeB x=true:=by
  have e:leI 1024 (topX x)=false:=leI_false.2 (by omega)
  rw [freeB,f,hard_ne h,e,h]
  simp
theorem both17{x:Dx}(hx:0≤x.m)(p:Int)(fr:Bool)(k6:(bothHr x p).2=6→fr=true)(k0:(bothHr x p).2=0→(bothTq x p).2≠0→fr=freeB x) :
    LikeOk (bothTq x p).1.1 (bothTq x p).2 (bothHr x p).1.1 (bothHr x p).2 p fr∧LikeOk (bothTq x p).1.2 (bothTq x p).2 (bothHr x p).1.2 (bothHr x p).2 p fr:=by
  by_cases c:x.fitsB=true∧8≤p∧p≤2048
  rotate_left
  · have e1:bothTq x p=((zeroIv,zeroIv),2):=by
      rw [bothTq,if_neg]
      rintro ⟨a,b⟩
      refine c ⟨?_,b⟩
      unfold chkD at a
      split at a
      · assumption
      · cases a
    have e2:bothHr x p=((zeroIv,zeroIv),2):=by rw [bothHr,if_neg c]
    rw [e1,e2]
    exact ⟨.none (sameV_refl _) (by decide) (fun _=>by decide) rfl,.none (sameV_refl _) (by decide) (fun _=>by decide) rfl⟩
  obtain ⟨f,p0,p1⟩:=c
  have cq:chkD x=0∧8≤p∧p≤2048:=⟨by rw [chkD,if_pos f],p0,p1⟩
  have tq:∀ w,w≠0→bothTr x p=((zeroIv,zeroIv),w)→bothTq x p=((zeroIv,zeroIv),w):=fun w hw e=>by
    rw [bothTq,if_pos cq,e,if_neg hw]
  have hq:(hquR x (p+24)).2.2≠0→bothHr x p=((zeroIv,zeroIv),(hquR x (p+24)).2.2):=fun h=>by
    rw [bothHr,if_pos ⟨f,p0,p1⟩,if_neg h]
  have tr:(quarR x (p+32)).2.2≠0→bothTr x p=((zeroIv,zeroIv),(quarR x (p+32)).2.2):=fun h=>by
    rw [bothTr,if_neg h]
  have many:∀ w,w=6∨w=3→hardB x=true→x.m≠0→topX x<1024→bothTq x p=((zeroIv,zeroIv),w)→((bothHr x p).2=0∨(bothHr x p).2=6) →
      LikeOk (bothTq x p).1.1 (bothTq x p).2 (bothHr x p).1.1 (bothHr x p).2 p fr∧LikeOk (bothTq x p).1.2 (bothTq x p).2 (bothHr x p).1.2 (bothHr x p).2 p fr:=fun w hw hh z t e hn=>by
    have hf:fr=true:=by
      rcases hn with n | n
      · rw [k0 n (by rw [e];rcases hw with rfl | rfl<;>decide)];exact hard_free f t hh
      · exact k6 n
    rw [e]
    exact ⟨.many (sameV_refl _) hf hn hw,.many (sameV_refl _) hf hn hw⟩
  have topx:x.m≠0→topD (oneD x)<1024→topX x<1024:=fun z t=>Classical.byContradiction fun k=>by
    have ey:(oneD x).rv=x.rv:=rv_one hx
    have am:=amt_same oneD_p hx ey
    have l1:=amt_lt (m:=(oneD x).m) (e:=(oneD x).e)
    have l2:=amt_ge (m:=x.m) (e:=x.e) (by omega)
    have l3:=p2_le (show (oneD x).e+(blen (oneD x).m:Int)≤1024 by unfold topD at t;omega)
    have l4:=p2_le (show 1024≤x.e+(blen x.m:Int)-1 by unfold topX at k;omega)
    rw [am] at l1
    grind
  rcases dy_codes hx f p0 p1 with ⟨a,b⟩|⟨hn,qn,ht⟩
  · rw [tq 3 (by decide) (by rw [tr (by rw [a];decide),a]),hq (by rw [b];decide),b]
    exact ⟨.none (sameV_refl _) (by decide) (fun _=>by decide) rfl,.none (sameV_refl _) (by decide) (fun _=>by decide) rfl⟩
  have hn':(bothHr x p).2=0∨(bothHr x p).2=6:=by
    rcases hn with h | h
    · left;rw [bothHr,if_pos ⟨f,p0,p1⟩,if_pos h]
    · right;rw [hq (by rw [h];decide),h]
  rcases qn with q | ⟨q,hh,t⟩
  rotate_left
  · have z:x.m≠0:=fun z=>by
      have:=hard_ne hh
      rw [zeroB_true.2 z] at this;cases this
    exact many 6 (.inl rfl) hh z (topx z t) (tq 6 (by decide) (by rw [tr (by rw [q];decide),q])) hn'
  rcases dy_pair hx p0 p1 q ht with ⟨e,hh,z⟩|⟨S,C,n,e,PQ,Q⟩
  · exact many 3 (.inr rfl) hh z (topx z (ht z)) (tq 3 (by decide) e) hn'
  have e':bothTq x p=((trimV (turnP (n % 4) (S,C)).1 (p+8),trimV (turnP (n % 4) (S,C)).2 (p+8)),0):=by rw [bothTq,if_pos cq,e,if_pos rfl]
  rcases hn with h | h
  · obtain ⟨n',kn',H,D⟩:=doc_pair hx p0 p1 h
    obtain rfl:n=n':=qh_same Q H
    have eh:bothHr x p=(turnP (n % 4) (sinesH (hquR x (p+24)).2.1 (p+24),cosinesH (hquR x (p+24)).2.1 (p+24)),0):=by rw [bothHr,if_pos ⟨f,p0,p1⟩,if_pos h,kn']
    obtain ⟨wa,wb⟩:=bothHr_ok hx p0 p1
    rw [eh] at wa wb
    obtain ⟨hs,hc⟩:=pairq_half PQ
    obtain ⟨xs,xc⟩:=turn_half hs hc (n % 4)
    obtain ⟨us,uc⟩:=enc_turned D.u.p D.w.p D.s D.c (n % 4)
    have e0:=rlL (p2_pos (-19-p))
    rw [e',eh]
    exact ⟨.both rfl rfl (wa.s.mono (by omega)) (half_encl xs us p0 e0 Rat.le_refl),.both rfl rfl (wb.s.mono (by omega)) (half_encl xc uc p0 e0 Rat.le_refl)⟩
  · have e6:=hq (by rw [h];decide)
    rw [h] at e6
    have ft:fr=true:=k6 (by rw [e6])
    rw [e',e6]
    exact ⟨.hard ft rfl rfl,.hard ft rfl rfl⟩
theorem sBt17_ok:SpecsOk Tryz.prog (sBt17 bothTq bothHr Dx.zeroB topX freeB LikeOk):=⟨rBp_ok,hBu17_ok,lLv17_ok,fZero_ok,fTop_ok,lFe_ok,lLk17_ok,trivial⟩
def lBt17:Spec:=specK [.d,.i .i64] fun (_:Dx) (_:Int)=>(none,bT true)
theorem lBt17_ok:SpecOk Tryz.prog 8 lBt17 :=
  specK_ok (envOk tysR_ok sBt17_ok) mixed Tryz.func8 rfl (by decide) (by decide) fun (x:Dx) hx (p:Int) _ _=>⟨fun _=>none,0,by
    have hm:=Dx.Wf.m0 hx
    show execF _ _ _ _ _ (fun t=>t=bT true)
    refine (lBt17_vc x p bothTq bothHr Dx.zeroB topX freeB LikeOk _).mpr (br_intro (fun h=>?_) fun h=>br_intro (fun h'=>br_intro (fun h''=>?_) fun h''=>br_intro (fun z=>⟨?_,br_intro (fun t=>?_) fun t=>?_⟩) fun z=>?_) fun h'=>?_)
    · have k:=both17 hm p true (fun _=>rfl) (fun a=>by rw [eqI_true.1 h] at a;cases a)
      exact ⟨k.1,k.2,rfl⟩
    · have k:=both17 hm p (freeB x) (fun a=>absurd a (eqI_false.1 h)) (fun _ _=>rfl)
      exact ⟨k.1,k.2,rfl⟩
    · have n0:=eqI_true.1 h'
      have f:x.fitsB=true:=Classical.byContradiction fun k=>by
        rw [bothHr,if_neg (fun c=>k c.1)] at n0;cases n0
      exact (fits_sm f).eB (by omega)
    · have k:=both17 hm p (freeB x) (fun a=>absurd a (eqI_false.1 h)) (fun _ _=>rfl)
      exact ⟨k.1,k.2,rfl⟩
    · have k:=both17 hm p false (fun a=>absurd a (eqI_false.1 h)) (fun _ w=>absurd (neI_false.1 h'') w)
      exact ⟨k.1,k.2,rfl⟩
    · have k:=both17 hm p false (fun a=>absurd a (eqI_false.1 h)) (fun _ w=>absurd (neI_false.1 h'') w)
      exact ⟨k.1,k.2,rfl⟩
    · have k:=both17 hm p false (fun a=>absurd a (eqI_false.1 h)) (fun a _=>absurd a (eqI_false.1 h'))
      exact ⟨k.1,k.2,rfl⟩⟩
end Go.Proofs.YtenkjloaghmjfaaGreatDoor
namespace Go.Proofs.YtenkjloaghmjfaaGreatDoor
open Go.RowKit Go.ChangeShapes Go.WideShapes Go.Deep
set_option maxRecDepth 100000
def C0(W:World):Base:=⟨W.heap.size,fun _=>False,0⟩
section
variable {H:Type} {enc:TypeId×Value→H} {W:World} {base fuel:Nat} {s:Value} {x:DataW H×List MemPlace}
theorem open_words(hv:Cell.okWide Tryz.prog W .any base 25 s)(h:DataW.trod enc Tryz.prog W 0 (fun _=>true) true fuel 25 [s]=some x)
    (hw:(x.1.weights Tryz.prog 25).all (·≤reachBytes)=true) (hlt:∀ p∈x.2,p.block<W.heap.size):∃ xs,Rep (C0 W) noBox W s (.words false xs):=by
  rcases open_ints Tryz.underlying25 Tryz.underlying23 (by kernel_rfl) h with ⟨e,rfl⟩|⟨a,len,cap,zs,e,_,hl,hm,hz,rfl,hc,hwf⟩
  · cases e
    exact ⟨[],.words ⟨none,0,rfl,Nat.le_refl _,⟨by omega,by simp⟩,Words.nil,fun _=>rfl,fun h=>absurd h (by simp)⟩⟩
  · cases e
    rw [if_pos rfl] at hz
    obtain ⟨_,_,_,hspot,_⟩:len≤cap∧(cap:Int)≤IntKind.i64.max∧W.has Tryz.prog .any base a 23 cap:=by
      simpa [Cell.okWide,Cell.ok,Tryz.underlying25] using hv
    obtain ⟨g,o,spot⟩:=a
    simp only at hspot;subst hspot
    have hb8:Tryz.prog.bytesOf 23=8:=by kernel_rfl
    have hwt:(len+(cap-len))*8≤reachBytes:=by
      simp only [DataW.weights,Tryz.underlying25,List.all_cons,Bool.and_eq_true,decide_eq_true_eq,lits,List.length_map,List.length_take,List.length_drop,hz,hb8] at hw
      have:=hw.1
      rwa [Nat.min_eq_left hl] at this
    have hr:reachBytes=140737488351232:=rfl
    rw [hr] at hwt
    have hwords:Words zs:=fun n hn=>by
      have:=hwf n hn
      simp only [Lit.wf,Bool.and_eq_true,decide_eq_true_eq] at this
      have h1:IntKind.u64.min=0:=rfl
      have h2:IntKind.u64.max=18446744073709551615:=rfl
      rw [h1,h2] at this
      exact ⟨by omega,by omega⟩
    have hlen:(zs.take len).length=len:=by rw [List.length_take];omega
    refine ⟨zs.take len,.words ⟨_,cap,by rw [hlen],by omega,⟨by simp [maxLen] at hm;omega,by omega⟩,hwords.take _,by simp,fun hp=>⟨g,o,rfl,⟨⟨by simp [noBox],fun hx=>hx.elim⟩,by simp⟩,?_,fun j hj=>?_⟩⟩⟩
    · exact World.block_lt_of_cell? W _ (hc 0 (by omega))
    · have hj:j<len:=by omega
      have:=hc j (by omega)
      rw [nth_take hj]
      rw [show (⟨g,o,none⟩:Addr).add j=⟨g,o+j,none⟩ from by simp [Addr.add]] at this
      exact this
theorem open_dy{cs:List Value}(hok:∀ c,cs[1]?=some c→Cell.okWide Tryz.prog W .any base 25 c)(h:DataW.trod enc Tryz.prog W 0 (fun _=>true) true fuel 27 cs=some x)
    (hw:(x.1.weights Tryz.prog 27).all (·≤reachBytes)=true) (hlt:∀ p∈x.2,p.block<W.heap.size):∃ d:Dx,RepL (C0 W) noBox W cs (dyL false d):=by
  obtain ⟨y0,y1,y2,n,rfl,hl,h0,h1,h2⟩:=trod_struct3 Tryz.underlying27 h
  rw [show Tryz.prog.cellsOf 27=3 by kernel_rfl] at hl
  match cs,hl with
  | [c0,c1,c2],_ =>
    obtain ⟨b,e0,rfl⟩:=DataW.trod_bool Tryz.underlying4 h0
    obtain ⟨k,e2,rfl,hk⟩:=DataW.trod_int Tryz.underlying3 h2
    rw [show Tryz.prog.cellsOf 4=1 by kernel_rfl] at e0
    rw [show Tryz.prog.cellsOf 3=1 by kernel_rfl] at e2
    simp at e0 e2
    subst e0;subst e2
    simp only [show Tryz.prog.cellsOf 25=1 by kernel_rfl] at h1
    simp only [DataW.weights,Tryz.underlying27,DataW.weightsEach,List.map_cons,List.map_nil,List.all_append,Bool.and_eq_true] at hw
    obtain ⟨xs,hxs⟩:=open_words (hok c1 rfl) (by simpa using h1) hw.2.1 (fun p hp=>hlt p (by simp [hp]))
    exact ⟨⟨b,xs,k⟩,Rep.bool b,hxs,Rep.int _ k,trivial⟩
theorem arg_d{v:Value}{d:DataW H}{ps:List MemPlace}(hv:Value.okWide Tryz.prog W .any base 27 v)(h:DataW.Trod enc Tryz.prog W 0 (fun _=>true) true 27 v d ps)
    (hw:(d.weights Tryz.prog 27).all (·≤reachBytes)=true) (hlt:∀ p∈ps,p.block<W.heap.size):∃ x:Dx,RepS (C0 W) noBox W v (.agg (dyL false x)):=by
  simp only [Value.okWide,Tryz.underlying27] at hv
  obtain ⟨cs,rfl,hsz,ts,hts,_,hrow⟩:=hv
  rw [show Tryz.prog.cellTypes Tryz.prog.depth 27=some [4,25,3] by kernel_rfl] at hts
  cases hts
  obtain ⟨fuel,h⟩:=h
  obtain ⟨x,hx⟩:=open_dy (x:=(d,ps)) (base:=base) (fun c hc=>by
    obtain ⟨u,hu,hok⟩:=hrow 1 c (by rw [←Array.getElem?_toList];exact hc)
    cases hu;exact hok) h hw hlt
  exact ⟨x,cs.toList,rfl,hx⟩
theorem arg_v{v:Value}{d:DataW H}{ps:List MemPlace}(hv:Value.okWide Tryz.prog W .any base 29 v)(h:DataW.Trod enc Tryz.prog W 0 (fun _=>true) true 29 v d ps)
    (hw:(d.weights Tryz.prog 29).all (·≤reachBytes)=true) (hlt:∀ p∈ps,p.block<W.heap.size):∃ x:Vx,RepS (C0 W) noBox W v (.agg (ivL false x)):=by
  simp only [Value.okWide,Tryz.underlying29] at hv
  obtain ⟨cs,rfl,hsz,ts,hts,_,hrow⟩:=hv
  rw [show Tryz.prog.cellTypes Tryz.prog.depth 29=some [4,25,3,4,25,3] by kernel_rfl] at hts
  cases hts
  rw [show Tryz.prog.cellsOf 29=6 by kernel_rfl] at hsz
  obtain ⟨fuel,h⟩:=h
  obtain ⟨cs⟩:=cs
  match cs,hsz with
  | [c0,c1,c2,c3,c4,c5],_ =>
    obtain ⟨y0,y1,n,e,_,h0,h1⟩:=trod_struct2 Tryz.underlying29 h
    cases e
    simp only [show Tryz.prog.cellsOf 27=3 by kernel_rfl] at h0 h1
    simp only [DataW.weights,Tryz.underlying29,DataW.weightsEach,List.map_cons,List.map_nil,List.all_append,Bool.and_eq_true] at hw
    obtain ⟨x,hx⟩:=open_dy (cs:=[c0,c1,c2]) (base:=base) (fun c hc=>by
      obtain ⟨u,hu,hok⟩:=hrow 1 c hc
      cases hu;exact hok) h0 hw.1 (fun p hp=>hlt p (by simp [hp]))
    obtain ⟨y,hy⟩:=open_dy (cs:=[c3,c4,c5]) (base:=base) (fun c hc=>by
      obtain ⟨u,hu,hok⟩:=hrow 4 c hc
      cases hu;exact hok) h1 hw.2.1 (fun p hp=>hlt p (by simp [hp]))
    obtain ⟨a1,a2,a3,_⟩:=hx
    obtain ⟨b1,b2,b3,_⟩:=hy
    exact ⟨⟨x,y⟩,[c0,c1,c2,c3,c4,c5],rfl,a1,a2,a3,b1,b2,b3,trivial⟩
def Kd:Ak→TypeId→Prop
  | .b,t=>t=4
  | .i q,t=>Tryz.prog.underlying t=some (.int q)
  | .w,_=>False
  | .fx,_=>False
  | .p,_=>False
  | .d,t=>t=27
  | .v,t=>t=29
def Kds:List Ak→List TypeId→Prop
  | [],[]=>True
  | k :: ks,t :: ts=>Kd k t∧Kds ks ts
  | _,_=>False
def okArg:(k:Ak)→k.T→Prop
  | .i q,n=>q.min≤n∧n≤q.max
  | _,_=>True
theorem arg_k{k:Ak}{t:TypeId}(hk:Kd k t){v:Value}{d:DataW H}{ps:List MemPlace}(hv:Value.okWide Tryz.prog W .any base t v)(h:DataW.Trod enc Tryz.prog W 0 (fun _=>true) true t v d ps)
    (hw:(d.weights Tryz.prog t).all (·≤reachBytes)=true) (hlt:∀ p∈ps,p.block<W.heap.size):∃ x:k.T,RepS (C0 W) noBox W v (k.enc x)∧okArg k x:=by
  cases k with
  | b =>
    obtain rfl:t=4:=hk
    obtain ⟨b,rfl⟩:=okWide_bool Tryz.underlying4 hv
    exact ⟨b,Rep.bool b,trivial⟩
  | i q =>
    obtain ⟨n,rfl⟩:=okWide_int hk hv
    refine ⟨n,Rep.int q n,(show q.min≤n∧n≤q.max from ?_)⟩
    have hk:Tryz.prog.underlying t=some (.int q):=hk
    simpa [Value.okWide,Cell.okWide,Cell.ok,hk,IntKind.has] using hv
  | w=>exact hk.elim
  | fx=>exact hk.elim
  | p=>exact hk.elim
  | d =>
    obtain rfl:t=27:=hk
    obtain ⟨x,hx⟩:=arg_d hv h hw hlt;exact ⟨x,hx,trivial⟩
  | v =>
    obtain rfl:t=29:=hk
    obtain ⟨x,hx⟩:=arg_v hv h hw hlt;exact ⟨x,hx,trivial⟩
theorem dec_enc(k:Ak)(x:k.T):k.dec (k.enc x)=some x:=by
  cases k with
  | i q=>cases q<;>rfl
  | _=>rfl
def AllTrue:(ks:List Ak)→AFun ks→Prop
  | [],g=>(match g.1 with | none=>True | some p=>p)∧g.2 = .sv (.one (.bool true))
  | k :: ks,g=>∀ x:k.T,okArg k x→AllTrue ks (g x)
theorem args_ok:∀ {ks:List Ak} {ts:List TypeId} {vs:List Value} {ds:List (DataW H)} {ps:List MemPlace},Kds ks ts→(∀ (j:Nat) t v,ts[j]?=some t→vs[j]?=some v→Value.okWide Tryz.prog W .any base t v) →
    DataW.TrodAll enc Tryz.prog W 0 (fun _=>true) true ts vs ds ps→(DataW.weightsEach Tryz.prog ts ds).all (·≤reachBytes)=true→(∀ p∈ps,p.block<W.heap.size) →
    ∃ l,RepSs (C0 W) noBox W vs l∧∀ g,AllTrue ks g→(match (specK ks g l).1 with | none=>True | some p=>p)∧(specK ks g l).2 = .sv (.one (.bool true))
  | [],[],vs,ds,ps,_,_,h,_,_=>by
    obtain ⟨rfl,rfl,rfl⟩:=trodAll_nil h
    exact ⟨[],trivial,fun g hg=>hg⟩
  | [],_ :: _,_,_,_,hk,_,_,_,_=>hk.elim
  | _ :: _,[],_,_,_,hk,_,_,_,_=>hk.elim
  | k :: ks,t :: ts,vs,ds,ps,hk,hv,h,hw,hlt=>by
    obtain ⟨v,vs1,d,ds1,a,b,rfl,rfl,rfl,h1,h2⟩:=trodAll_cons h
    simp only [DataW.weightsEach,List.all_append,Bool.and_eq_true] at hw
    obtain ⟨x,hx,hox⟩:=arg_k hk.1 (hv 0 t v rfl rfl) h1 hw.1 (fun p hp=>hlt p (by simp [hp]))
    obtain ⟨l,hl,hs⟩:=args_ok hk.2 (fun j t v ht hv'=>hv (j+1) t v ht hv') h2 hw.2 (fun p hp=>hlt p (by simp [hp]))
    refine ⟨k.enc x :: l,⟨hx,hl⟩,fun g hg=>?_⟩
    have e:specK (k :: ks) g (k.enc x :: l)=(match k.dec (k.enc x) with | some x=>specK ks (g x) l | none=>noSpec):=rfl
    rw [e,dec_enc]
    exact hs (g x) (hg x hox)
theorem law_calls{f:FuncId}{ks:List Ak}{g:AFun ks}(hs:SpecOk Tryz.prog f (specK ks g))(hg:AllTrue ks g){ts:List TypeId}{args:Array Value}{ds:List (DataW H)}{ps:List MemPlace}(hT:Tab W)(hk:Kds ks ts)
    (hv:∀ (j:Nat) t v,ts[j]?=some t→args.toList[j]?=some v→Value.okWide Tryz.prog W .any base t v) (h:DataW.TrodAll enc Tryz.prog W 0 (fun _=>true) true ts args.toList ds ps)
    (hw:(DataW.weightsEach Tryz.prog ts ds).all (·≤reachBytes)=true) (hlt:∀ p∈ps,p.block<W.heap.size) :
    Calls Tryz.prog f args W fun e W'=>e = .returned (.bool true)∧Below W.heap.size W W':=by
  obtain ⟨l,hl,hsp⟩:=args_ok hk hv h hw hlt
  have:=hs.2 (C0 W) W args.toList l rfl (fun g hg=>hg.elim) hT hl (hsp g hg).1
  rw [(hsp g hg).2] at this
  refine this.mono ?_
  rintro e w' ⟨v,rfl,hr,hb⟩
  obtain rfl:=rep_bool (A:=noBox) hr
  exact ⟨rfl,hb⟩
theorem trodAll_below{W':World}(hb:Below W.heap.size W W')(hl:laidOutB Tryz.prog=true):∀ {ts:List TypeId} {vs:List Value} {ds:List (DataW H)} {ps:List MemPlace},(∀ t∈ts,Tryz.prog.readableRec t=true∧t<Tryz.prog.types.size) →
    DataW.TrodAll enc Tryz.prog W 0 (fun _=>true) true ts vs ds ps→(∀ p∈ps,p.block<W.heap.size)→DataW.TrodAll enc Tryz.prog W' 0 (fun b=>decide (b<W.heap.size)) true ts vs ds ps
  | [],vs,ds,ps,_,h,_=>by
    obtain ⟨rfl,rfl,rfl⟩:=trodAll_nil h
    exact trodAll_mk0
  | t :: ts,vs,ds,ps,ht,h,hlt=>by
    obtain ⟨v,vs1,d,ds1,a,b,rfl,rfl,rfl,h1,h2⟩:=trodAll_cons h
    exact ⟨a,b,Below.trod hl (ht t (by simp)).1 (ht t (by simp)).2 h1 hb (fun p hp=>hlt p (by simp [hp])),trodAll_below hb hl (fun t h=>ht t (by simp [h])) h2 (fun p hp=>hlt p (by simp [hp])),rfl⟩
theorem law_post{fn:Func}{s:ChangeSpec}(hl:laidOutB Tryz.prog=true)(hres:fn.resultTypes = #[4])(hvars:s.vars = [])(ht:∀ t∈fn.params.toList,Tryz.prog.readableRec t=true∧t<Tryz.prog.types.size)
    {args:Array Value} {ds gs:List (DataW H)} {before:List MemPlace} (hspec:s.fn H (ds ++ gs) = { results:=[.lit (.bool true)],args:=ds })
    (hW:DataW.Whole enc Tryz.prog fn.params.toList s.vars false W args.toList ds gs before) {W':World} (hb:Below W.heap.size W W') :
    s.post enc Tryz.prog fn false true false false W args (.bool true) W':=by
  have hlt:=hW.lt
  have hW':=hW
  obtain ⟨p,q,hA,hV,rfl,hfz,hnd⟩:=hW
  rw [hvars] at hV
  obtain ⟨rfl,rfl⟩:=trodVars_none hV
  refine ⟨ds,[],_,[],p,[],hW',?_,?_,?_,hb.frame _,fun h=>by cases h⟩
  · rw [hspec,hres]
    exact trodAll_mk1 (shut_bool Tryz.underlying4 _)
  · rw [hspec]
    exact trodAll_below hb hl ht hA (fun x hx=>hlt x (by simp [hx]))
  · rw [hspec,hvars];rfl
end
theorem law_contract{H:Type}{enc:TypeId×Value→H}{f:FuncId}{fn:Func}{ks:List Ak}{g:AFun ks}{s:ChangeSpec}(hs:SpecOk Tryz.prog f (specK ks g))(hg:AllTrue ks g)(hl:laidOutB Tryz.prog=true)(hres:fn.resultTypes = #[4])(hvars:s.vars = [])
    (hvt:s.plain.varTypes Tryz.prog = []) (ht:∀ t∈fn.params.toList,Tryz.prog.readableRec t=true∧t<Tryz.prog.types.size) (hk:Kds ks fn.params.toList) (hspec:∀ ds:List (DataW H),ds.length=fn.params.toList.length→s.fn H ds = { results:=[.lit (.bool true)],args:=ds })
    {W:World} {base:Nat} {args:Array Value} {ds gs:List (DataW H)} {before:List MemPlace} (hval:∀ (j:Nat) t v,fn.params[j]?=some t→args[j]?=some v→Value.okWide Tryz.prog W .any base t v)
    (hW:DataW.Whole enc Tryz.prog fn.params.toList s.vars false W args.toList ds gs before) (hw:(DataW.weightsEach Tryz.prog (fn.params.toList ++ s.plain.varTypes Tryz.prog) (ds ++ gs)).all (·≤reachBytes)=true) (hT:Tab W) :
    Calls Tryz.prog f args W fun e W'=>∃ v,e = .returned v∧s.post enc Tryz.prog fn false true false false W args v W':=by
  have hlt:=hW.lt
  have hW':=hW
  obtain ⟨p,q,hA,hV,rfl,hfz,hnd⟩:=hW
  rw [hvars] at hV
  obtain ⟨rfl,rfl⟩:=trodVars_none hV
  rw [hvt,List.append_nil,List.append_nil] at hw
  refine (law_calls hs hg hT hk (fun j t v h1 h2=>hval j t v (by rw [←Array.getElem?_toList];exact h1) (by rw [←Array.getElem?_toList];exact h2)) hA hw (fun x hx=>hlt x (by simp [hx]))).mono ?_
  rintro e W' ⟨rfl,hb⟩
  exact ⟨_,rfl,law_post hl hres hvars ht (by rw [List.append_nil];exact hspec ds (trodAll_length hA).2) hW' hb⟩
theorem tabA_of{W:World}{D:DataW Unit}(hD:∀ ys:List (DataW Unit×List MemPlace),D = .agg (ys.map (·.1))→∀ j,j<64→∃ y,ys[j]?=some y∧y.1 = .lit (.int .u8 (Lib.deBruijn64tab.getD j 0)))
    {g0 : Nat} {t0 : TypeId} {cs0 : Array Value} {f0 : Nat} {p0 : List MemPlace} (hg0 : Tryz.prog.globalNamed "math/bits.deBruijn64tab" = some g0) (ht0 : (Tryz.prog.globals[g0]?).map (·.type) = some t0) (hv0 : W.var? Tryz.prog "math/bits.deBruijn64tab" = some cs0)
    (hd0:DataW.trod (fun _=>()) Tryz.prog W 0 (fun _=>true) false f0 t0 cs0.toList=some (D,p0)):TabA W:=by
  obtain rfl := Option.some.inj ((show Tryz.prog.globalNamed "math/bits.deBruijn64tab" = some 1 by kernel_rfl).symm.trans hg0)
  obtain rfl:=Option.some.inj ((show (Tryz.prog.globals[1]?).map (·.type)=some 156 by kernel_rfl).symm.trans ht0)
  obtain ⟨xs,m1,_,hx1,hlen,hn3,hel⟩:=DataW.trod_array Tryz.underlying156 hd0
  intro j hj
  simp only [Prod.mk.injEq] at hx1
  obtain ⟨y,hy,hy1⟩:=hD xs hx1.1 j hj
  have hj':=hel j hj
  rw [hy,show Tryz.prog.cellsOf 5=1 by kernel_rfl] at hj'
  obtain ⟨k,e1,e2,_⟩:=DataW.trod_int Tryz.underlying5 hj'
  have hk:k=Lib.deBruijn64tab.getD j 0:=by
    rw [e2] at hy1;simpa using hy1
  subst hk
  have:=World.var?_cell hg0 hv0 j
  rw [this]
  rw [Nat.mul_one] at e1
  have e3:(cs0.toList.drop j)[0]?=some (.int .u8 (Lib.deBruijn64tab.getD j 0)):=by
    have:((cs0.toList.drop j).take 1)[0]?=some (.int .u8 (Lib.deBruijn64tab.getD j 0)):=by rw [e1];rfl
    rwa [List.getElem?_take,if_pos (by omega)] at this
  rw [List.getElem?_drop,Nat.add_zero] at e3
  simpa using e3
theorem turn_cells{W:World}{f0:Nat}{cs:List Value}{x:DataW Unit×List MemPlace}(h:DataW.trod (fun _=>()) Tryz.prog W 0 (fun _=>true) false f0 93 cs=some x){a b:Int}{c d:Bool}
    (e:x.1 = .agg [.lit (.int .i64 a),.lit (.int .i64 b),.lit (.bool c),.lit (.bool d)]):cs = [.int .i64 a,.int .i64 b,.bool c,.bool d]:=by
  obtain ⟨xs,n,_,rfl,hl,hlen,hf⟩:=DataW.trod_struct Tryz.underlying93 h
  rw [show Tryz.prog.cellsOf 93=4 by kernel_rfl] at hl
  match cs,hl,xs,hlen,hf with
  | [c0,c1,c2,c3],_,[y0,y1,y2,y3],_,hf =>
    have h0:DataW.trod (fun _=>()) Tryz.prog W 0 (fun _=>true) false n 3 (([c0,c1,c2,c3].drop 0).take (Tryz.prog.cellsOf 3))=some y0:=hf 0 _ rfl
    have h1:DataW.trod (fun _=>()) Tryz.prog W 0 (fun _=>true) false n 3 (([c0,c1,c2,c3].drop 1).take (Tryz.prog.cellsOf 3))=some y1:=hf 1 _ rfl
    have h2:DataW.trod (fun _=>()) Tryz.prog W 0 (fun _=>true) false n 4 (([c0,c1,c2,c3].drop 2).take (Tryz.prog.cellsOf 4))=some y2:=hf 2 _ rfl
    have h3:DataW.trod (fun _=>()) Tryz.prog W 0 (fun _=>true) false n 4 (([c0,c1,c2,c3].drop 3).take (Tryz.prog.cellsOf 4))=some y3:=hf 3 _ rfl
    obtain ⟨k0,e0,r0,_⟩:=DataW.trod_int Tryz.underlying3 h0
    obtain ⟨k1,e1,r1,_⟩:=DataW.trod_int Tryz.underlying3 h1
    obtain ⟨k2,e2,r2⟩:=DataW.trod_bool Tryz.underlying4 h2
    obtain ⟨k3,e3,r3⟩:=DataW.trod_bool Tryz.underlying4 h3
    rw [show Tryz.prog.cellsOf 3=1 by kernel_rfl] at e0 e1
    rw [show Tryz.prog.cellsOf 4=1 by kernel_rfl] at e2 e3
    simp at e0 e1 e2 e3
    subst e0;subst e1;subst e2;subst e3;subst r0;subst r1;subst r2;subst r3
    simp at e
    obtain ⟨rfl,rfl,rfl,rfl⟩:=e
    rfl
theorem tabT_of{W:World}{D:DataW Unit}(hD:D = .agg [.agg [.lit (.int .i64 0),.lit (.int .i64 1),.lit (.bool false),.lit (.bool false)],.agg [.lit (.int .i64 1),.lit (.int .i64 0),.lit (.bool false),.lit (.bool true)],.agg [.lit (.int .i64 0),.lit (.int .i64 1),.lit (.bool true),.lit (.bool true)],.agg [.lit (.int .i64 1),.lit (.int .i64 0),.lit (.bool true),.lit (.bool false)]])
    {g0 : Nat} {t0 : TypeId} {cs0 : Array Value} {f0 : Nat} {p0 : List MemPlace} (hg0 : Tryz.prog.globalNamed "ulp/trig.turns" = some g0) (ht0 : (Tryz.prog.globals[g0]?).map (·.type) = some t0) (hv0 : W.var? Tryz.prog "ulp/trig.turns" = some cs0)
    (hd0:DataW.trod (fun _=>()) Tryz.prog W 0 (fun _=>true) false f0 t0 cs0.toList=some (D,p0)):TabT W:=by
  subst hD
  obtain rfl := Option.some.inj ((show Tryz.prog.globalNamed "ulp/trig.turns" = some 0 by kernel_rfl).symm.trans hg0)
  obtain rfl:=Option.some.inj ((show (Tryz.prog.globals[0]?).map (·.type)=some 94 by kernel_rfl).symm.trans ht0)
  obtain ⟨xs,m1,_,hx1,hlen,hn3,hel⟩:=DataW.trod_array Tryz.underlying94 hd0
  rw [show Tryz.prog.cellsOf 94=16 by kernel_rfl] at hlen
  simp only [Prod.mk.injEq] at hx1
  have hx:=hx1.1
  have e16:cs0.toList=turnsL:=by
    generalize hl:cs0.toList=l at hlen hel
    match xs,hn3,hx,hel with
    | [y0,y1,y2,y3],_,hx,hel =>
      simp only [List.map_cons,List.map_nil,DataW.agg.injEq,List.cons.injEq] at hx
      have h0:=hel 0 (by omega)
      have h1:=hel 1 (by omega)
      have h2:=hel 2 (by omega)
      have h3:=hel 3 (by omega)
      rw [show Tryz.prog.cellsOf 93=4 by kernel_rfl] at h0 h1 h2 h3
      have k0:=turn_cells h0 hx.1.symm
      have k1:=turn_cells h1 hx.2.1.symm
      have k2:=turn_cells h2 hx.2.2.1.symm
      have k3:=turn_cells h3 hx.2.2.2.1.symm
      have e:l=(l.drop (0*4)).take 4 ++ ((l.drop (1*4)).take 4 ++ ((l.drop (2*4)).take 4 ++ (l.drop (3*4)).take 4)):=by
        match l,hlen with
        | [_,_,_,_,_,_,_,_,_,_,_,_,_,_,_,_],_=>rfl
      rw [e,k0,k1,k2,k3]
      rfl
  intro i v e
  rw [World.var?_cell hg0 hv0 i,←Array.getElem?_toList,e16]
  exact e
theorem tab_of{W:World}{D D2:DataW Unit}(hD:∀ ys:List (DataW Unit×List MemPlace),D = .agg (ys.map (·.1))→∀ j,j<64→∃ y,ys[j]?=some y∧y.1 = .lit (.int .u8 (Lib.deBruijn64tab.getD j 0)))
    (hD2:D2 = .agg [.agg [.lit (.int .i64 0),.lit (.int .i64 1),.lit (.bool false),.lit (.bool false)],.agg [.lit (.int .i64 1),.lit (.int .i64 0),.lit (.bool false),.lit (.bool true)],.agg [.lit (.int .i64 0),.lit (.int .i64 1),.lit (.bool true),.lit (.bool true)],.agg [.lit (.int .i64 1),.lit (.int .i64 0),.lit (.bool true),.lit (.bool false)]])
    (hh : D.handleName?.isNone = true) (h : laidMetH Tryz.prog [("math/bits.deBruijn64tab", D), ("ulp/trig.turns", D2)] W) : Tab W := by
  rw [MakeChecks.laidMetH_plain _ _ _ (by subst hD2;show (D.handleName?.isNone && _)=true;rw [hh];rfl)] at h
  obtain ⟨ps,⟨g0,t0,cs0,f0,p0,q0,hg0,ht0,hv0,hd0,⟨g1,t1,cs1,f1,p1,q1,hg1,ht1,hv1,hd1,_⟩,_⟩,_⟩:=h
  exact ⟨tabA_of hD hg0 ht0 hv0 hd0,tabT_of hD2 hg1 ht1 hv1 hd1⟩
end Go.Proofs.YtenkjloaghmjfaaGreatDoor
