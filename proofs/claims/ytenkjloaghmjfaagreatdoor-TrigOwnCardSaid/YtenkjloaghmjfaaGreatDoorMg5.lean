/-
Quotients of narrow intervals; how great the sines of what is not too near 0 are. Plain.
The angle of so many half turns. Plain.
Sine and cosine of so many half turns, turned: they meet the document's. Plain.
Tangents: what the program's quotient is, and that it meets the document's. Plain.
The document's sine and cosine of half turns keep off 0; quotients of 0. Plain.
What TrigpiBoth asks. Plain.
What TrigpiEncloses asks, behind the reading of a binary64 number. Plain.
What is left of a binary64 number behind half turns has room, and is not too near 0. Plain.
The turned pair: on the circle, mirrored, half a turn on. Plain.
What the program and the document leave of one number behind right angles: as many, and a shared rational. Plain.
Sine and cosine of what is left behind right angles. Plain.
Circle, mirror, half a turn: what ulplaw18 asks without the document. Plain.
The tangent on the other side of 0. Plain.
What is left behind right angles of a number that is not 0: it is not 0, and how great it is. Plain.
How sine, cosine and inverse tangent change from number to number; the tangent of the inverse tangent. Plain.
Sequences of angles: sums of them, the sine and the cosine of a quarter and of half of pi. Plain.
Sequences of angles that lie in an interval in the end: what holds of all numbers of the interval holds of them; the pair of half turns. Plain.
Sine and cosine of a sum of so many half turns, turned. Plain.
Binary64 numbers, taken apart: dyad.From, ulpref04.From, bits.Neg.
What the program leaves behind right angles encloses a sequence of angles; its pair of a binary64; what TrigEncloses asks. Plain.
Package trigpi: the turned pairs.
Package trigpi: of, Both, Enclose.
Package ulpref18.
Package ulplaw18: the answers that the document gives; TrigpiEncloses, TrigpiBoth.
Package trig.
The program's and the document's pair of a binary64; what TrigEncloses asks. Plain.
Packages trig, ulpref17: Both, Enclose; ulplaw17: free, like, sound.
Package ulpref17; ulplaw17: free, like; TrigEncloses behind lives.
Package ulplaw17: free, like, lives; TrigEncloses.
ulplaw17: sound; Touch and Lies of ulpref06; TrigCircle, TrigMirror.
ulplaw17: TrigCircle.
Package ulplaw18: statements without the document: their helpers and runs.
ulplaw17: TrigMirror.
ulplaw17: TrigBounds, TrigBoth: their runs.
ulplaw17: TrigBoth.
ulplaw17, TrigOwn: what is called, as contracts: answers lie in new memory.
ulplaw17, TrigOwn: Enclose's answer lies in new memory; the walk.
ulplaw17, TrigOwn: its end: the run of the code behind the loop.
ulplaw17, TrigOwn: the walk.
ulplaw17, TrigOwn: its word.
From the arguments of a row to numbers and intervals; what a law's call leaves.
-/
import Derived.Test.YtenkjloaghmjfaaGreatDoorMg4
import Derived.Test.YtenkjloaghmjfaaGreatDoorMg3
import Derived.Test.YtenkjloaghmjfaaGreatDoorMg2
import Derived.ProofKit
import Derived.LaidMore
import Derived.OpenShut
import Derived.LaidLaws
import Derived.Carry
import Derived.OpenVars
import Derived.Deep.Strs
import Derived.ChangeCalls
import Derived.Stop.Joined
namespace Go.Proofs.YtenkjloaghmjfaaGreatDoor
open Go.RowKit
theorem pair_vm{v:Vx}{q A:Int}{δ:Rat}(hv:v.P)(h1:ZZ v.lo q=0)(h2:ZZ v.hi q=0)(hn:NarV δ v)(hA:p2 A≤v.lo.rv∨p2 A≤-v.hi.rv)(a0:-20000≤A)(d0:0≤δ)(hd:δ≤p2 (-q)) :
    qT (qV (ZA (QT v) q) (q+8))=true∧VM (p2 (5-q)) (p2 (A-5)) (p2 5) (qV (ZA (QT v) q) (q+8)):=by
  obtain ⟨f1,p0,p1,m1⟩:=fault0 hv.1 h1
  obtain ⟨f2,_,_,m2⟩:=fault0 hv.2 h2
  have e1:eps (q+8)=p2 (-7-q):=by unfold eps;congr 1;omega
  have e4:4*eps (q+8)≤1:=by
    rw [e1]
    have:=Qz (show -7-q≤-2 by omega)
    have e:p2 (-2)=1/4:=by decide +kernel
    rw [e] at this;grind
  have k36:p2 (-36-q)≤p2 (-q)/8:=by
    have:=Qz (show -36-q≤-3 + -q by omega)
    rw [Qb] at this
    have e:p2 (-3)=1/8:=by decide +kernel
    rw [e] at this;grind
  have k7:p2 (-7-q)≤p2 (-q)/64:=by
    have:=Qz (show -7-q≤-6 + -q by omega)
    rw [Qb] at this
    have e:p2 (-6)=1/64:=by decide +kernel
    rw [e] at this;grind
  have k5:p2 (5-q)=32*p2 (-q):=by
    rw [show 5-q=5 + -q by omega,Qb]
    have e:p2 5=32:=by decide +kernel
    rw [e]
  have q8:p2 (-q)≤1/8:=by
    have:=Qz (show -q≤-3 by omega)
    have e:p2 (-3)=1/8:=by decide +kernel
    rw [e] at this;exact this
  have w36:=rlL (qL (-36-q))
  have q0:=qL (-q)
  have SB:=sines_nar (p:=q) hv m1 m2 hn hA d0 (by grind) (by omega) (by omega)
  have V:=SB.vm.trim SB.p (p:=q+8) (by grind) (by omega) e4
  have l1:p2 (A-4)/2=p2 (A-5):=by have:=ZJ (A-5);rw [show A-5+1=A-4 by omega] at this;grind
  have l2:2*p2 4=p2 5:=ZJ 4
  rw [l1,l2] at V
  have V':=V.mono (η:=p2 (5-q)) (by rw [e1,k5];grind) (qL _) Rat.le_refl Rat.le_refl
  exact ⟨cut_right SB.p V' (by omega) (by omega) (by omega) (by omega),V'⟩
theorem inv_neg1{b:Rat}(hb:b≠0):(-b)⁻¹ = -b⁻¹:=by
  have e:=Rat.inv_mul_cancel b hb
  have f:=Rat.inv_mul_cancel (-b) (by grind)
  have g:(-b)⁻¹=(-b)⁻¹*(b⁻¹*b):=by rw [e,Rat.mul_one]
  have h:(-b)⁻¹*(b⁻¹*b) = -((-b)⁻¹*(-b)*b⁻¹):=by grind
  rw [g,h,f,Rat.one_mul]
theorem p2_inv(a:Int):(p2 a)⁻¹=p2 (-a):=by
  have e:=Rat.inv_mul_cancel (p2 a) (by have:=qL a;grind)
  have f:=p2_neg a
  have g:(p2 a)⁻¹*(p2 (-a)*p2 a)=(p2 a)⁻¹:=by rw [f,Rat.mul_one]
  have h:(p2 a)⁻¹*(p2 (-a)*p2 a)=p2 (-a)*((p2 a)⁻¹*p2 a):=by grind
  rw [←g,h,e,Rat.mul_one]
theorem quo_size{A B C D:Int}{x y:Rat}(x1:p2 A≤x)(x2:x≤p2 B)(y1:p2 C≤y)(y2:y≤p2 D):p2 (A-D)≤x*y⁻¹∧x*y⁻¹≤p2 (B-C):=by
  have a0:=qL A
  have c0:=qL C
  obtain ⟨i1,i0⟩:=inv_anti (show 0<y by grind) y2
  obtain ⟨j1,j0⟩:=inv_anti c0 y1
  rw [p2_inv] at i1 i0 j1
  have m1:=rmR x1 (rlL i0)
  have m2:=rmL i1 (show 0≤x by grind)
  have m3:=rmL j1 (show 0≤x by grind)
  have m4:=rmR x2 (rlL (qL (-C)))
  rw [←Qb] at m1 m4
  exact ⟨by rw [show A-D=A + -D by omega];grind,by rw [show B-C=B + -C by omega];grind⟩
theorem quo_nm{ζ l h q1 q2:Rat}{A B p:Int}(hp:1≤p)(he:4*eps p≤1)(z0:0≤ζ)(h1:p2 A≤q1)(h2:q2≤p2 B)(hl:Dn p q1 l)(hh:Up p q2 h)(le:l≤h)(hq:q2≤q1+ζ*q1)(q20:0<q2):NM (2*ζ+4*eps p) (p2 (A-1)) (p2 (B+1)) l h:=by
  have a0:=qL A
  have r1:=(hl.rel hp (show 0<q1 by grind)).1
  have r2:=hh.rel hp q20
  have m1:=rmR he (show 0≤q1 by grind)
  have m2:=rmR he (rlL q20)
  have d1:=ZJ (A-1)
  rw [show A-1+1=A by omega] at d1
  have d2:=ZJ B
  exact ⟨qL _,by grind,by grind,quo_up_dn hp he z0 (by grind) hl hh le hq q20⟩
theorem div_vm{X Z:Vx}{δ η:Rat}{A B C D p:Int}(hX:X.P)(hZ:Z.P)(hx:VM δ (p2 A) (p2 B) X)(hz:VM η (p2 C) (p2 D) Z)(d0:0≤δ)(n0:0≤η)(hp:1≤p)(he:4*eps p≤1) :
    (Zx X Z p).lo.rv≤(Zx X Z p).hi.rv∧Off0 Z∧VM (2*(δ+η+δ*η)+4*eps p) (p2 (A-D-1)) (p2 (B-C+1)) (Zx X Z p):=by
  have zle:=vm_le hz
  have off:Off0 Z:=by
    rcases hz with h | h
    · exact .inl h.nar.1
    · exact .inr (by have:=h.nar.1;grind)
  have ze:0≤δ+η+δ*η:=by have:=rmN d0 n0;grind
  obtain ⟨⟨a,b,k1,e1⟩,a',b',k2,e2⟩:=div_at X Z p
  have b1:=k1.best hX hZ off zle hp
  have b2:=k2.best hX hZ off zle hp
  have le:(Zx X Z p).lo.rv≤(Zx X Z p).hi.rv:=by
    have:=(div_lo X Z p k1).2
    have x1:=b1.2.1.2.1
    have x2:=b1.2.2.2.1
    rw [e1];grind
  refine ⟨le,off,?_⟩
  obtain ⟨bn,bD,_⟩:=b1
  obtain ⟨bn',_,bU⟩:=b2
  rw [←e1] at bD
  rw [←e2] at bU
  obtain ⟨ca,cb⟩:=k1
  obtain ⟨ca',cb'⟩:=k2
  have sx:(∀ d:Dx,d=X.lo∨d=X.hi→X.lo.rv≤d.rv∧d.rv≤X.hi.rv):=fun d h=>by
    have:=vm_le hx
    rcases h with e | e<;>rw [e]<;>exact ⟨by grind,by grind⟩
  have sz:(∀ d:Dx,d=Z.lo∨d=Z.hi→Z.lo.rv≤d.rv∧d.rv≤Z.hi.rv):=fun d h=>by
    rcases h with e | e<;>rw [e]<;>exact ⟨by grind,by grind⟩
  obtain ⟨a1,a2⟩:=sx a ca
  obtain ⟨a1',a2'⟩:=sx a' ca'
  obtain ⟨c1,c2⟩:=sz b cb
  obtain ⟨c1',c2'⟩:=sz b' cb'
  rcases hx with h | h<;>rcases hz with k | k
  · have q:=quo_nar h.nar k.nar d0 n0 a1 a2 c1 c2 a1' a2' c1' c2'
    have q':=(quo_nar h.nar k.nar d0 n0 a1' a2' c1' c2' a1 a2 c1 c2).1
    have s1:=(quo_size (A:=A) (B:=B) (C:=C) (D:=D) (x:=a.rv) (y:=b.rv) (by have:=h.lo;grind) (by have:=h.hi;grind) (by have:=k.lo;grind) (by have:=k.hi;grind)).1
    have s2:=(quo_size (A:=A) (B:=B) (C:=C) (D:=D) (x:=a'.rv) (y:=b'.rv) (by have:=h.lo;grind) (by have:=h.hi;grind) (by have:=k.lo;grind) (by have:=k.hi;grind)).2
    exact .inl (quo_nm hp he ze s1 s2 bD bU le q.2 q')
  · have q:=quo_nar h.nar k.nar d0 n0 (x:=a'.rv) (y:=-b'.rv) (x':=a.rv) (y':=-b.rv) a1' a2' (by grind) (by grind) a1 a2 (by grind) (by grind)
    have q':=(quo_nar h.nar k.nar d0 n0 (x:=a.rv) (y:=-b.rv) (x':=a'.rv) (y':=-b'.rv) a1 a2 (by grind) (by grind) a1' a2' (by grind) (by grind)).1
    have s1:=(quo_size (A:=A) (B:=B) (C:=C) (D:=D) (x:=a'.rv) (y:=-b'.rv) (by have:=h.lo;grind) (by have:=h.hi;grind) (by have:=k.lo;grind) (by have:=k.hi;grind)).1
    have s2:=(quo_size (A:=A) (B:=B) (C:=C) (D:=D) (x:=a.rv) (y:=-b.rv) (by have:=h.lo;grind) (by have:=h.hi;grind) (by have:=k.lo;grind) (by have:=k.hi;grind)).2
    rw [inv_neg1 bn'] at q s1
    rw [inv_neg1 bn] at q q' s2
    refine .inr (quo_nm hp he ze s1 s2 ?_ ?_ (by grind) q.2 q')
    · have:=bU.neg;rwa [show a'.rv * -b'.rv⁻¹ = -(a'.rv*b'.rv⁻¹) by grind]
    · have:=bD.neg;rwa [show a.rv * -b.rv⁻¹ = -(a.rv*b.rv⁻¹) by grind]
  · have q:=quo_nar h.nar k.nar d0 n0 (x:=-a'.rv) (y:=b'.rv) (x':=-a.rv) (y':=b.rv) (by grind) (by grind) c1' c2' (by grind) (by grind) c1 c2
    have q':=(quo_nar h.nar k.nar d0 n0 (x:=-a.rv) (y:=b.rv) (x':=-a'.rv) (y':=b'.rv) (by grind) (by grind) c1 c2 (by grind) (by grind) c1' c2').1
    have s1:=(quo_size (A:=A) (B:=B) (C:=C) (D:=D) (x:=-a'.rv) (y:=b'.rv) (by have:=h.lo;grind) (by have:=h.hi;grind) (by have:=k.lo;grind) (by have:=k.hi;grind)).1
    have s2:=(quo_size (A:=A) (B:=B) (C:=C) (D:=D) (x:=-a.rv) (y:=b.rv) (by have:=h.lo;grind) (by have:=h.hi;grind) (by have:=k.lo;grind) (by have:=k.hi;grind)).2
    refine .inr (quo_nm hp he ze s1 s2 ?_ ?_ (by grind) q.2 q')
    · have:=bU.neg;rwa [show -a'.rv*b'.rv⁻¹ = -(a'.rv*b'.rv⁻¹) by grind]
    · have:=bD.neg;rwa [show -a.rv*b.rv⁻¹ = -(a.rv*b.rv⁻¹) by grind]
  · have q:=quo_nar h.nar k.nar d0 n0 (x:=-a.rv) (y:=-b.rv) (x':=-a'.rv) (y':=-b'.rv) (by grind) (by grind) (by grind) (by grind) (by grind) (by grind) (by grind) (by grind)
    have q':=(quo_nar h.nar k.nar d0 n0 (x:=-a'.rv) (y:=-b'.rv) (x':=-a.rv) (y':=-b.rv) (by grind) (by grind) (by grind) (by grind) (by grind) (by grind) (by grind) (by grind)).1
    have s1:=(quo_size (A:=A) (B:=B) (C:=C) (D:=D) (x:=-a.rv) (y:=-b.rv) (by have:=h.lo;grind) (by have:=h.hi;grind) (by have:=k.lo;grind) (by have:=k.hi;grind)).1
    have s2:=(quo_size (A:=A) (B:=B) (C:=C) (D:=D) (x:=-a'.rv) (y:=-b'.rv) (by have:=h.lo;grind) (by have:=h.hi;grind) (by have:=k.lo;grind) (by have:=k.hi;grind)).2
    rw [inv_neg1 bn] at q s1
    rw [inv_neg1 bn'] at q q' s2
    have t1:-a.rv * -b.rv⁻¹=a.rv*b.rv⁻¹:=by grind
    have t2:-a'.rv * -b'.rv⁻¹=a'.rv*b'.rv⁻¹:=by grind
    rw [t1] at q s1
    rw [t2] at q q' s2
    exact .inl (quo_nm hp he ze s1 s2 bD bU le q.2 q')
def angH(r:Dx)(p:Int):Vx:=qK (YZ (p+40)) (qD r) (p+40)
def ZD(k:Int)(b:Vx×Vx):Vx×Vx:=if k=1 then (b.2,ZF b.1) else if k=2 then (ZF b.1,ZF b.2) else if k=3 then (ZF b.2,b.1) else b
theorem Enc.turn{s:Nat→Rat}{U:Vx}(hU:U.P)(h:Enc s U.lo.rv U.hi.rv):Enc (fun n=>-s n) (ZF U).lo.rv (ZF U).hi.rv:=by
  obtain ⟨r1,r2⟩:=turn_rv hU
  rw [r1,r2];exact h.neg
theorem half_encl{η:Rat}{X U:Vx}{s:Nat→Rat}{p:Int}(h:Half η X s)(k:Enc s U.lo.rv U.hi.rv)(p0:8≤p)(e0:0≤η)(he:η≤p2 (-19-p)):enclB (qV X (p+8)) U p=true:=by
  have k1:p2 (-7-p)≤p2 (-p)/64:=by
    have:=Qz (show -7-p≤-6 + -p by omega)
    rw [Qb] at this
    have e:p2 (-6)=1/64:=by decide +kernel
    rw [e] at this;grind
  have k2:p2 (-19-p)≤p2 (-p)/64:=by
    have:=Qz (show -19-p≤-6 + -p by omega)
    rw [Qb] at this
    have e:p2 (-6)=1/64:=by decide +kernel
    rw [e] at this;grind
  have q:=qL (-p)
  have F:=fin_ok h.p h.f h.r h.t h.b e0 p0 (by grind)
  have E:=trim_enc h.p (p:=p+8) (by omega) h.e
  exact F.encl (E.meets k) (k.meets E)
theorem shared{s:Nat→Rat}{X U:Vx}(h:Enc s X.lo.rv X.hi.rv)(k:Enc s U.lo.rv U.hi.rv):∃ x,InV X x∧InV U x:=by
  have m1:=h.meets k
  have m2:=k.meets h
  have l1:=h.self
  have l2:=k.self
  rcases (show X.lo.rv≤U.lo.rv∨U.lo.rv≤X.lo.rv by grind) with c | c
  · exact ⟨U.lo.rv,⟨c,m2⟩,⟨Rat.le_refl,l2⟩⟩
  · exact ⟨X.lo.rv,⟨Rat.le_refl,l1⟩,⟨c,m1⟩⟩
theorem trim_in2{v:Vx}{p:Int}{x:Rat}(hv:v.P)(hp:1≤p)(h:InV v x):InV (qV v p) x:=by
  obtain ⟨b1,b2⟩:=Zr hv hp
  have:=b1.2.1
  have:=b2.2.1
  exact ⟨by have:=h.1;grind,by have:=h.2;grind⟩
theorem meet_in{X U:Vx}{x:Rat}(h:InV X x)(k:InV U x):X.lo.rv≤U.hi.rv∧U.lo.rv≤X.hi.rv:=⟨Rat.le_trans h.1 k.2,Rat.le_trans k.1 h.2⟩
theorem quo_fin{X Z:Vx}{η:Rat}{A B C D p q:Int}(hX:X.P)(hZ:Z.P)(hp:(Zx X Z q).P)(hx:VM η (p2 A) (p2 B) X)(hz:VM η (p2 C) (p2 D) Z)(e0:0≤η)(he:η≤p2 (-19-p))(p0:8≤p)(p1:p≤2064)(hq:p+16≤q)(a0:-20000≤A-D)(b0:B-C≤20000) :
    Off0 Z∧Fin1 p (qV (Zx X Z q) (p+8)):=by
  have e1:eps q≤p2 (-15-p):=Qz (by omega)
  have e2:eps (p+8)=p2 (-7-p):=by unfold eps;congr 1;omega
  have k15:p2 (-15-p)≤p2 (-p)/64:=by
    have:=Qz (show -15-p≤-6 + -p by omega)
    rw [Qb] at this
    have e:p2 (-6)=1/64:=by decide +kernel
    rw [e] at this;grind
  have k7:p2 (-7-p)≤p2 (-p)/64:=by
    have:=Qz (show -7-p≤-6 + -p by omega)
    rw [Qb] at this
    have e:p2 (-6)=1/64:=by decide +kernel
    rw [e] at this;grind
  have k19:p2 (-19-p)≤p2 (-p)/64:=by
    have:=Qz (show -19-p≤-6 + -p by omega)
    rw [Qb] at this
    have e:p2 (-6)=1/64:=by decide +kernel
    rw [e] at this;grind
  have k15':p2 (-15-p)≤p2 (-p)/1024:=by
    have:=Qz (show -15-p≤-10 + -p by omega)
    rw [Qb] at this
    have e:p2 (-10)=1/1024:=by decide +kernel
    rw [e] at this;grind
  have k19':p2 (-19-p)≤p2 (-p)/1024:=by
    have:=Qz (show -19-p≤-10 + -p by omega)
    rw [Qb] at this
    have e:p2 (-10)=1/1024:=by decide +kernel
    rw [e] at this;grind
  have q1:p2 (-p)≤1/8:=by
    have:=Qz (show -p≤-3 by omega)
    have e:p2 (-3)=1/8:=by decide +kernel
    rw [e] at this;exact this
  have q0:=qL (-p)
  have eq0:=Yf q
  obtain ⟨le,off,V⟩:=div_vm hX hZ hx hz e0 e0 (p:=q) (by omega) (by grind)
  have sq:=rmL (show η≤1 by grind) e0
  have T:=V.trim hp (p:=p+8) (by have:=rmN e0 e0;grind) (by omega) (by rw [e2];grind)
  have l1:p2 (A-D-1)/2=p2 (A-D-2):=by have:=ZJ (A-D-2);rw [show A-D-2+1=A-D-1 by omega] at this;grind
  have l2:2*p2 (B-C+1)=p2 (B-C+2):=by rw [ZJ];congr 1;omega
  rw [l1,l2] at T
  have T':=T.mono (η:=p2 (-p)) (by rw [e2];grind) (qL _) Rat.le_refl Rat.le_refl
  have R:=cut_right hp T' (by omega) (by omega) (by omega) (by omega)
  exact ⟨off,Q9 _ _,⟨YI hp.1,YI hp.2⟩,R,narrow_of (Q9 _ _) R (by omega) T' Rat.le_refl⟩
theorem tan_encl{X Z U W:Vx}{s c:Nat→Rat}{η:Rat}{A B C D p q q':Int}(hX:Half η X s)(hZ:Half η Z c)(hp:(Zx X Z q).P)(hx:VM η (p2 A) (p2 B) X)(hz:VM η (p2 C) (p2 D) Z)(hU:U.P)(hW:W.P)(eU:Enc s U.lo.rv U.hi.rv)(eW:Enc c W.lo.rv W.hi.rv)(oW:Off0 W)
    (e0:0≤η) (he:η≤p2 (-19-p)) (p0:8≤p) (p1:p≤2064) (hq:p+16≤q) (hq':1≤q') (a0:-20000≤A-D) (b0:B-C≤20000):enclB (qV (Zx X Z q) (p+8)) (Zx U W q') p=true:=by
  obtain ⟨off,F⟩:=quo_fin hX.p hZ.p hp hx hz e0 he p0 p1 hq a0 b0
  obtain ⟨x,x1,x2⟩:=shared hX.e eU
  obtain ⟨y,y1,y2⟩:=shared hZ.e eW
  have i1:=trim_in2 hp (p:=p+8) (by omega) (div_in hX.p hZ.p off (p:=q) (by omega) x1 y1)
  have i2:=div_in hU hW oW hq' x2 y2
  have m:=meet_in i1 i2
  exact F.encl m.1 m.2
theorem overD_zero(b:Dx)(p:Int)(up:Bool):Qc ⟨false,[],0⟩ b p up=⟨false,[],0⟩:=by
  have z:(qC ⟨false,[],0⟩).m=0:=QC.1 ((Z9 zZ).2 ((Qs (Int.le_refl _)).trans Z2))
  unfold Qc overX
  rw [if_pos z]
theorem divV_zero(Z:Vx)(q:Int):Zx zeroIv Z q=zeroIv:=by
  have h:∀ up,quoV zeroIv Z q up=zeroIv:=fun up=>by
    show Qt (Qc ⟨false,[],0⟩ Z.lo q up) [Qc ⟨false,[],0⟩ Z.hi q up,Qc ⟨false,[],0⟩ Z.lo q up,Qc ⟨false,[],0⟩ Z.hi q up]=zeroIv
    rw [overD_zero,overD_zero]
    have s:Qp zeroIv ⟨false,[],0⟩=zeroIv:=by
      unfold Qp
      show (⟨if _ then _ else _,if _ then _ else _⟩:Vx)=_
      split<;>split<;>rfl
    show Qp (Qp (Qp zeroIv _) _) _=_
    rw [s,s,s]
  show (⟨(quoV zeroIv Z q false).lo,(quoV zeroIv Z q true).hi⟩:Vx)=_
  rw [h,h]
theorem zero_encl{U:Vx}{p:Int}(p0:0≤p)(h:InV U 0):enclB zeroIv U p=true:=by
  have z:zeroIv.lo.rv=0:=Z2
  have z':zeroIv.hi.rv=0:=Z2
  have F:Fin1 p zeroIv:=⟨⟨Int.le_refl _,Int.le_refl _⟩,zero_f,zero_right,narrow_zero p0⟩
  exact F.encl (by rw [z];exact h.2) (by rw [z'];exact h.1)
theorem tan_zero{Z U W:Vx}{s c:Nat→Rat}{p q q':Int}(hU:U.P)(hW:W.P)(eU:InV U 0)(eW:Enc c W.lo.rv W.hi.rv)(oW:Off0 W)(p0:0≤p)(hq':1≤q'):enclB (qV (Zx zeroIv Z q) (p+8)) (Zx U W q') p=true:=by
  rw [divV_zero,trim_zero _ (by omega)]
  have l:=eW.self
  have:=div_in hU hW oW hq' eU (y:=W.lo.rv) ⟨Rat.le_refl,l⟩
  rw [Rat.zero_mul] at this
  exact zero_encl p0 this
theorem Off0.turn{U:Vx}(hU:U.P)(h:Off0 U):Off0 (ZF U):=by
  obtain ⟨r1,r2⟩:=turn_rv hU
  unfold Off0 at h ⊢
  rw [r1,r2]
  rcases h with h | h
  · exact .inr (by grind)
  · exact .inl (by grind)
theorem angH_off{r:Dx}(hr:0≤r.m)(h0:r.rv≠0){p:Int}(p0:8≤p)(p1:p≤8000):Off0 (angH r p):=by
  have P:=refPi_iv (w:=p+40) (by omega) (by omega)
  obtain ⟨q1,q2⟩:=Xf hr
  obtain ⟨⟨x0,y0,hx0,hy0,g1⟩,x1,y1,hx1,hy1,g2⟩:=prod_at P.p (zJ r)
  obtain ⟨t1,t2⟩:=times_best (p:=p+40) (by omega) P.p (zJ r)
  have l:=P.lo
  have le:=P.le
  have e0:y0=r.rv:=by rcases hy0 with e | e<;>rw [e];exact q1;exact q2
  have e1:y1=r.rv:=by rcases hy1 with e | e<;>rw [e];exact q1;exact q2
  have b0:0<x0:=by rcases hx0 with e | e<;>rw [e]<;>grind
  have b1:0<x1:=by rcases hx1 with e | e<;>rw [e]<;>grind
  rcases (show 0<r.rv∨r.rv<0 by grind) with s | s
  · left
    exact (t1.rel (by omega) (by rw [g1,e0];exact Rat.mul_pos b0 s)).2
  · right
    have h:=(t2.neg.rel (by omega) (by rw [g2,e1];have:=Rat.mul_pos b1 (show 0 < -r.rv by grind);grind)).2
    show (qK (YZ (p+40)) (qD r) (p+40)).hi.rv<0
    grind
theorem sinesH_off{v:Vx}{p:Int}(hv:v.P)(f1:Qa v.lo)(f2:Qa v.hi)(p0:0≤p)(p1:p≤60000)(h:Off0 v):Off0 (ZN v p):=by
  have amt:∀ {t:Dx},0≤t.m→t.rv≠0→∃ k,p2 k≤(t.m:Rat)*p2 t.e:=fun {t} ht h0=>by
    obtain ⟨a1,a2⟩:=QX ht
    have pos:0<(t.m:Rat)*p2 t.e:=by
      rcases (show 0<t.rv∨t.rv<0 by grind) with s | s
      · rw [←a1 (by grind)];exact s
      · rw [←a2 (by grind)];grind
    obtain ⟨k,k1,_⟩:=log2_ex pos
    exact ⟨k,k1⟩
  rcases h with h | h
  · obtain ⟨k,hk⟩:=amt hv.1 (by grind)
    obtain ⟨_,V2,V3⟩:=sineH_iv hv.1 f1 (by grind) hk p0 p1
    have:=sinS_bd0 h f1.1 V2
    left
    show 0<(QG v.lo p).lo.rv
    rcases V3 with n | n
    · exact n.nar.1
    · exfalso;have:=n.nar.1;grind
  · obtain ⟨k,hk⟩:=amt hv.2 (by grind)
    obtain ⟨_,V2,V3⟩:=sineH_iv hv.2 f2 (by grind) hk p0 p1
    have:=sinS_bd' h f2.2 V2
    right
    show (QG v.hi p).hi.rv<0
    rcases V3 with n | n
    · exfalso;have:=n.nar.1;grind
    · have:=n.nar.1;grind
theorem cosinesH_off{v:Vx}{p:Int}(hv:v.P)(f1:Qa v.lo)(f2:Qa v.hi)(p0:0≤p)(p1:p≤60000):Off0 (zO v p):=by
  have A:=XF (p:=p) hv.1 f1 p0 p1
  have B:=XF (p:=p) hv.2 f2 p0 p1
  have q:=qL (-2)
  have lo2:(zO v p).lo=(YP (qP v.lo p) (qP v.hi p)).lo:=by
    unfold zO;split<;>rfl
  left
  rw [lo2]
  rcases (hull_lo (qP v.lo p) (qP v.hi p)).2.2 with e | e<;>rw [e]
  · have:=A.2.2.lo;grind
  · have:=B.2.2.lo;grind
theorem VM.turn{δ L H:Rat}{v:Vx}(hv:v.P)(h:VM δ L H v):VM δ L H (ZF v):=by
  obtain ⟨r1,r2⟩:=turn_rv hv
  unfold VM
  rw [r1,r2,Rat.neg_neg,Rat.neg_neg]
  exact h.symm
theorem vm_off{δ L H:Rat}{v:Vx}(h:VM δ L H v):Off0 v:=by
  rcases h with h | h
  · exact .inl h.nar.1
  · exact .inr (by have:=h.nar.1;grind)
theorem fits_bd2{z:Dx}(h:OneF z)(hb:z.Bd 32768 32000):z.fitsB=true:=by
  have m0:=h.p
  have l:=hb.lo
  have u:=hb.hi
  have w:=Yq m0
  have g:Yr z.m=false:=by unfold Yr;exact decide_eq_false (by omega)
  unfold Dx.fitsB
  rw [g,decide_eq_true (show -32768≤z.e by omega),decide_eq_true (show z.e≤32768 by omega)];rfl
def turS(k:Int)(b:(Nat→Rat)×(Nat→Rat)):(Nat→Rat)×(Nat→Rat) :=
  if k=1 then (b.2,fun n=>-b.1 n) else if k=2 then (fun n=>-b.1 n,fun n=>-b.2 n) else if k=3 then (fun n=>-b.2 n,b.1) else b
theorem cq_of{x:Dx}{p:Int}(h:(zB x p).2.2=0):condQ x p:=by
  rcases ZC x p with ⟨_,q⟩|⟨c,_⟩|⟨c,_⟩|⟨c,_⟩|⟨c,_⟩
  · rw [q] at h;cases h
  all_goals exact c
theorem near_bd2{x c z:Rat}{n:Int}(c0:3/2≤c)(c1:c≤8/5)(h:NearI n (x*c⁻¹))(hz:z=x-(n:Rat)*c):-(4/5)≤z∧z≤4/5:=by
  have e:x=x*c⁻¹*c:=by rw [Rat.mul_assoc,Rat.inv_mul_cancel c (by grind),Rat.mul_one]
  have h1:=h.1
  have h2:=h.2.1
  have m1:=rmR h1 (show 0≤c by grind)
  have m2:=rmR h2 (show 0≤c by grind)
  rw [←e] at m1 m2
  constructor<;>grind
theorem narrow_facts2{v:Vx}{p:Int}(hv:v.P)(h:Qj v p=true):0≤p∧qT v=true∧v.lo.sgn=v.hi.sgn ∧
    (v.lo.sgn=0∨(Qm v.hi v.lo).zeroB=true∨((Qm v.hi v.lo).zeroB=false∧v.lo.sgn≠0∧p2 (-32768)≤(Qm v.hi v.lo).rv∧(if v.lo.sgn<0 then absD v.hi else absD v.lo).rv<p2 98304∧(Qm v.hi v.lo).rv*p2 p≤(if v.lo.sgn<0 then absD v.hi else absD v.lo).rv)):=by
  unfold Qj at h
  simp only [Bool.and_eq_true] at h
  obtain ⟨p0,hr,hn⟩:=h
  have fv:=QY hr
  refine ⟨zS.1 p0,hr,?_⟩
  unfold Q7 at hn
  by_cases h1:v.lo.sgn=v.hi.sgn
  · refine ⟨h1,?_⟩
    rw [if_neg (by omega)] at hn
    by_cases h2:v.lo.sgn=0
    · exact .inl h2
    · rw [if_neg h2] at hn
      cases h3:(Qm v.hi v.lo).zeroB with
      | true=>exact .inr (.inl rfl)
      | false =>
        rw [h3,if_neg (by simp)] at hn
        have hw:=wide_ge hv hr h3
        have hl:(if v.lo.sgn<0 then absD v.hi else absD v.lo).rv<p2 98304:=by
          split
          · rw [rv_abs hv.2];exact fits_lt fv.2.1
          · rw [rv_abs hv.1];exact fits_lt fv.1
        refine .inr (.inr ⟨rfl,h2,hw,hl,?_⟩)
        rw [narrowX_eq Xk (by split<;>exact absD_p) hw hl,decide_eq_true_eq] at hn
        exact hn
  · rw [if_pos h1] at hn;simp at hn
theorem YN{v:Vx}{p:Int}(hv:v.P)(h:Qj v p=true):VN (p2 (-p)) v:=by
  obtain ⟨p0,hr,sg,hc⟩:=narrow_facts2 hv h
  have le:=right_le hr
  have q:=qL p
  have q':=qL (-p)
  have i:=p2_neg p
  have s1:=sgn_rv hv.1
  have s2:=sgn_rv hv.2
  have wr:(Qm v.hi v.lo).rv=v.hi.rv-v.lo.rv:=rv_less hv.2 hv.1
  obtain ⟨al1,al2⟩:=QX hv.1
  obtain ⟨ah1,ah2⟩:=QX hv.2
  rcases s1 with ⟨a,b⟩|⟨a,b⟩|⟨a,b⟩
  · -- zero or above,by the kit's order of cases
    rcases s2 with ⟨c,d⟩|⟨c,d⟩|⟨c,d⟩<;>first | omega | skip
    all_goals first
      | exact .inl ⟨b,d⟩
      | (refine .inr (.inl ⟨b,le,?_⟩)
         rcases hc with hc | hc | ⟨_,_,_,_,hc⟩
         · omega
         · have:=(Z9 Xk).1 hc
           have:=rmN (rlL q') (rlL b)
           grind
         · rw [if_neg (by omega),rv_abs hv.1,←al1 (rlL b),wr] at hc
           have m:=rmL hc (rlL q')
           have e:p2 (-p)*((v.hi.rv-v.lo.rv)*p2 p)=v.hi.rv-v.lo.rv:=by rw [show p2 (-p)*((v.hi.rv-v.lo.rv)*p2 p)=(v.hi.rv-v.lo.rv)*(p2 (-p)*p2 p) by grind,i,Rat.mul_one]
           grind)
  · rcases s2 with ⟨c,d⟩|⟨c,d⟩|⟨c,d⟩<;>first | omega | skip
    all_goals first
      | exact .inl ⟨b,d⟩
      | (refine .inr (.inl ⟨b,le,?_⟩)
         rcases hc with hc | hc | ⟨_,_,_,_,hc⟩
         · omega
         · have:=(Z9 Xk).1 hc
           have:=rmN (rlL q') (rlL b)
           grind
         · rw [if_neg (by omega),rv_abs hv.1,←al1 (rlL b),wr] at hc
           have m:=rmL hc (rlL q')
           have e:p2 (-p)*((v.hi.rv-v.lo.rv)*p2 p)=v.hi.rv-v.lo.rv:=by rw [show p2 (-p)*((v.hi.rv-v.lo.rv)*p2 p)=(v.hi.rv-v.lo.rv)*(p2 (-p)*p2 p) by grind,i,Rat.mul_one]
           grind)
  · rcases s2 with ⟨c,d⟩|⟨c,d⟩|⟨c,d⟩<;>first | omega | skip
    refine .inr (.inr ⟨by grind,by grind,?_⟩)
    rcases hc with hc | hc | ⟨_,_,_,_,hc⟩
    · omega
    · have:=(Z9 Xk).1 hc
      have:=rmN (rlL q') (show 0≤-v.hi.rv by grind)
      grind
    · rw [if_pos (by omega),rv_abs hv.2,←ah2 (rlL d),wr] at hc
      have m:=rmL hc (rlL q')
      have e:p2 (-p)*((v.hi.rv-v.lo.rv)*p2 p)=v.hi.rv-v.lo.rv:=by rw [show p2 (-p)*((v.hi.rv-v.lo.rv)*p2 p)=(v.hi.rv-v.lo.rv)*(p2 (-p)*p2 p) by grind,i,Rat.mul_one]
      grind
theorem turn_half{η:Rat}{S C:Vx}{s c:Nat→Rat}(h:Half η S s)(g:Half η C c)(k:Int):Half η (ZD k (S,C)).1 (turS k (s,c)).1∧Half η (ZD k (S,C)).2 (turS k (s,c)).2:=by
  unfold ZD turS
  by_cases h1:k=1
  · rw [if_pos h1,if_pos h1];exact ⟨g,h.turn⟩
  · rw [if_neg h1,if_neg h1]
    by_cases h2:k=2
    · rw [if_pos h2,if_pos h2];exact ⟨h.turn,g.turn⟩
    · rw [if_neg h2,if_neg h2]
      by_cases h3:k=3
      · rw [if_pos h3,if_pos h3];exact ⟨g.turn,h⟩
      · rw [if_neg h3,if_neg h3];exact ⟨h,g⟩
theorem invS_e{n w:Int}(h:InvOk n w):1≤(Xq n w true).e:=by
  obtain ⟨_,_,_,_,a,_,b,_⟩:=invR_bd h
  show 1≤(Yc n w 0).e+(Yc n w 1).e
  omega
theorem piF_pos{w:Int}(w0:32≤w)(w1:w≤65536):1≤(piF w).e:=by
  have a:=invS_e (n:=5) (w:=w) ⟨by decide,by decide,w0,w1⟩
  have b:=invS_e (n:=239) (w:=w) ⟨by decide,by decide,w0,w1⟩
  show 1≤(Xq 5 w true).e*16+(Xq 239 w true).e*4
  omega
theorem piR_pos{w:Int}:1≤(piR w).e∨(w<32∨65536<w):=by
  by_cases c:32≤w∧w≤65536
  · left
    have e:∀ n,InvOk n w→8≤(refS n w).e:=fun n h=>by
      have a:=(smR_e h 0 (refK n w+1)).1
      have b:=(smR_e h 1 (refK n w+1)).1
      show 8≤(SmT (Yx n w) 0 (refK n w+1)).e+4+((SmT (Yx n w) 1 (refK n w+1)).e+4)
      omega
    have a:=e 5 ⟨by decide,by decide,c.1,c.2⟩
    have b:=e 239 ⟨by decide,by decide,c.1,c.2⟩
    show 1≤(refS 5 w).e*16+(refS 239 w).e*4
    omega
  · right;omega
theorem ivF_lt{z:Fx}{w:Int}(a0:0≤z.a)(e1:1≤z.e):(ivF z w).lo.rv<(ivF z w).hi.rv:=by
  obtain ⟨r1,r2⟩:=ivF_rv (w:=w) a0 (show 0≤z.e by omega)
  rw [r1,r2]
  have c:(z.a:Rat)<((z.a+z.e:Int):Rat):=by exact_mod_cast (show z.a<z.a+z.e by omega)
  exact Rat.mul_lt_mul_of_pos_right c (qL _)
theorem trim_lt{v:Vx}{p:Int}(hv:v.P)(hp:1≤p)(h:v.lo.rv<v.hi.rv):(qV v p).lo.rv<(qV v p).hi.rv:=by
  have a:=(trim_in2 hv hp (show InV v v.lo.rv from ⟨Rat.le_refl,rlL h⟩)).1
  have b:=(trim_in2 hv hp (show InV v v.hi.rv from ⟨rlL h,Rat.le_refl⟩)).2
  grind
theorem scale_lt{v:Vx}(hv:v.P)(h:v.lo.rv<v.hi.rv):(zE v (-1)).lo.rv<(zE v (-1)).hi.rv:=by
  show (zC v.lo (-1)).rv<(zC v.hi (-1)).rv
  rw [Z7 hv.1,Z7 hv.2]
  exact Rat.mul_lt_mul_of_pos_right h (qL _)
theorem halfP_lt{w:Int}(w0:8≤w)(w1:w≤65000):(zW w).lo.rv<(zW w).hi.rv:=by
  obtain ⟨a0,e0,_,_⟩:=piF_e (w:=w+64) (by omega) (by omega)
  exact scale_lt (constPi_iv w0 w1).p (trim_lt (encPi_iv w0 w1).p (by omega) (ivF_lt a0 (piF_pos (by omega) (by omega))))
theorem refH_lt{w:Int}(w0:32≤w)(w1:w≤65536):(refH w).lo.rv<(refH w).hi.rv:=by
  obtain ⟨a0,e0,_,_⟩:=piR_e w0 w1
  exact scale_lt (refPi_iv w0 w1).p (ivF_lt a0 (by rcases piR_pos (w:=w) with h | h;exact h;omega))
theorem rest_zero{h:Vx}(hp:h.P)(hl:h.lo.rv<h.hi.rv){x:Dx}(hx:0≤x.m){w:Int}(hw:1≤w)(z1:(zY h x w).lo.rv=0)(z2:(zY h x w).hi.rv=0):x.rv=0:=by
  have a:=rest_any hp hx hw (show InV h h.lo.rv from ⟨Rat.le_refl,rlL hl⟩)
  have b:=rest_any hp hx hw (show InV h h.hi.rv from ⟨rlL hl,Rat.le_refl⟩)
  obtain ⟨a1,a2⟩:=a
  obtain ⟨b1,b2⟩:=b
  rw [z1] at a1 b1
  rw [z2] at a2 b2
  have e:(nI h x w:Rat)*(h.hi.rv-h.lo.rv)=0:=by grind
  have n0:(nI h x w:Rat)=0:=by
    rcases Rat.mul_eq_zero.1 e with k | k
    · exact k
    · exfalso;grind
  rw [n0] at a1 a2;grind
theorem vn_off{δ:Rat}{v:Vx}(h:VN δ v)(z:¬ (v.lo.rv=0∧v.hi.rv=0)):NarV δ v:=by
  rcases h with h | h
  · exact absurd h z
  · exact h
theorem nar_off{δ:Rat}{v:Vx}(h:NarV δ v):Off0 v:=by
  rcases h with h | h
  · exact .inl h.1
  · exact .inr (by have:=h.1;grind)
theorem quar_off{x:Dx}(hx:0≤x.m)(h0:x.rv≠0){p:Int}(h:(zB x p).2.2=0):NarV (p2 (-p)) (zB x p).2.1∧∃ w,8≤w∧w≤8192∧(zB x p).2.1=zY (zW w) (qC x) w:=by
  have ho:(qC x).rv≠0:=by rw [Qs hx];exact h0
  rcases ZC x p with ⟨_,e⟩|⟨_,z,_⟩|⟨_,_,_,e⟩|⟨_,_,_,e⟩|⟨c,z,t,w,q⟩
  · rw [e] at h;cases h
  · exact absurd (Ye z) ho
  · rw [e] at h;cases h
  · rw [e] at h;cases h
  · have e:(zB x p).2.1=zY (zW w) (qC x) w:=by rw [q.eq]
    have hf:=Ya (w:=w) q.w0 (by have:=q.w1;omega)
    have rp:(zY (zW w) (qC x) w).P:=⟨Y8,Y8⟩
    have nb:Qj (zY (zW w) (qC x) w) p=true:=by
      have c2:=c.2.1
      rw [Qj,q.right,q.nar,zS.2 (show 0≤p by omega)];rfl
    refine ⟨?_,w,q.w0,q.w1,e⟩
    rw [e]
    exact vn_off (YN rp nb) fun z=>ho (rest_zero hf.p (halfP_lt q.w0 (by have:=q.w1;omega)) zZ (by have:=q.w0;omega) z.1 z.2)
theorem hqu_off{x:Dx}(hx:0≤x.m)(h0:x.rv≠0){p:Int}(p0:0≤p)(h:(Z4 x p).2.2=0):NarV (p2 (-p)) (Z4 x p).2.1:=by
  have hm:x.m≠0:=rv_ne h0
  unfold Z4 at h ⊢
  by_cases c:YR x p≠0∨x.m=0
  · exfalso
    rw [if_pos c] at h
    rcases c with c | c
    · exact c h
    · exact hm c
  · rw [if_neg c] at h ⊢
    rcases hquL_spec (x:=x) (p:=p) 9 (max (XG (qC x)) 0+p+64) (by omega) with e | ⟨w,w0,w1,k,e⟩
    · rw [e] at h;cases h
    · obtain ⟨_,nb,et⟩:=tryH_parts k
      rw [e,et]
      have hf:=refH_hf (w:=w) (by omega) (by omega)
      have rp:(zY (refH w) x w).P:=⟨Y8,Y8⟩
      exact vn_off (YN rp nb) fun z=>h0 (rest_zero hf.p (refH_lt (by omega) (by omega)) hx (by omega) z.1 z.2)
theorem rest_low{x:Dx}(hx:0≤x.m)(hb:x.Bd 1074 1024)(hi:inX x){w:Int}(w0:8≤w)(w1:w≤8192):(zY (zW w) x w).Bd 8258 4096:=by
  have hf:=Ya (w:=w) w0 (by omega)
  have cb:=halfP_bd (w:=w) w0 (by omega)
  obtain ⟨_,_,_,nb,_,_⟩:=half_sizes hf w0 (by omega) cb hx hi
  have np:0≤(nW (zW w) x w).m:=nearD_p
  have tb:=Vx.Bd.times (p:=w+64) (zJ (nW (zW w) x w)) hf.p (by omega) (nb.point np) cb
  exact (Vx.Bd.less (p:=w) (zJ x) (Q9 (prodV (qD (nW (zW w) x w)) (zW w)) (w+64)) (by omega) ((hb.point hx).mono (show (1074:Int)≤8258 by omega) (show (1024:Int)≤4094 by omega)) (tb.mono (by omega) (by omega))).mono (by omega) (by omega)
theorem bd_low{d:Dx}{L T:Int}(hd:0≤d.m)(hb:d.Bd L T)(h0:d.rv≠0):p2 (-L)≤(d.m:Rat)*p2 d.e:=by
  have m1:1≤d.m:=by have:=rv_ne h0;omega
  have a:((1:Int):Rat)≤(d.m:Rat):=by exact_mod_cast m1
  have e1:((1:Int):Rat)=1:=rfl
  rw [e1] at a
  have b:=Qz hb.lo
  have m:=rmR a (rlL (qL d.e))
  grind
theorem quar_amt{x:Dx}(hx:0≤x.m)(fx:OneF x)(hb:x.Bd 1074 1024)(hi:inX x)(h0:x.rv≠0){p:Int}(h:(zB x p).2.2=0):p2 (-8258)≤(zB x p).2.1.lo.rv∨p2 (-8258)≤-(zB x p).2.1.hi.rv:=by
  obtain ⟨n,w,w0,w1,e⟩:=quar_off hx h0 h
  rw [e,Xm fx] at n ⊢
  have b:=rest_low hx hb hi w0 w1
  have rp:(zY (zW w) x w).P:=⟨Y8,Y8⟩
  rcases n with n | n
  · left
    have:=bd_low rp.1 b.1 (by have:=n.1;grind)
    rw [←(QX rp.1).1 (rlL n.1)] at this;exact this
  · right
    have:=bd_low rp.2 b.2 (by have:=n.1;grind)
    rw [←(QX rp.2).2 (by have:=n.1;grind)] at this;exact this
theorem quar_both{x:Dx}(hx:0≤x.m)(fx:OneF x)(hb:x.Bd 1074 1024)(hi:inX x)(h0:x.rv≠0){p:Int}(p0:8≤p)(p1:p≤2064)(h:(zB x (p+32)).2.2=0)(s1:Qa (zB x (p+32)).2.1.lo)(s2:Qa (zB x (p+32)).2.1.hi)(rr:qT (zB x (p+32)).2.1=true)(rq:(zB x (p+32)).2.1.P) :
    ∃ S C,Z1 (zB x (p+32)).2.1 (p+24)=((S,C),0)∧VM (p2 (-19-p)) (p2 (-8263)) (p2 5) S∧PairOk (zB x (p+32)).2.1 (p2 (-19-p)) S C:=by
  obtain ⟨n,_⟩:=quar_off hx h0 h
  have am:=quar_amt hx fx hb hi h0 h
  have f:=QY rr
  have F1:=fault_of (p:=p+24) rq.1 f.1 s1 (by omega) (by omega)
  have F2:=fault_of (p:=p+24) rq.2 f.2.1 s2 (by omega) (by omega)
  have d0:=rlL (qL (-(p+32)))
  have dd:p2 (-(p+32))≤p2 (-(p+24)):=Qz (by omega)
  obtain ⟨r,v⟩:=pair_vm rq F1 F2 n am (by decide) d0 dd
  have e5:p2 (5-(p+24))=p2 (-19-p):=by congr 1;omega
  rw [e5] at v
  rcases pair_ok rq rr F1 F2 (.inr n) d0 dd with ⟨_,k⟩|⟨e,K⟩
  · rw [r] at k;cases k
  · rw [e5] at K
    exact ⟨_,_,e,v,K⟩
def Ab(x K:Rat):Prop:=-K≤x∧x≤K
theorem sqN(z:Rat):0≤z*z:=by
  rcases (show 0≤z∨0≤-z by grind) with q | q
  · exact rmN q q
  · have:=rmN q q;grind
theorem Ab.mono{x K L:Rat}(h:Ab x K)(k:K≤L):Ab x L:=⟨by have:=h.1;grind,by have:=h.2;grind⟩
theorem Ab.nonneg{x K:Rat}(h:Ab x K):0≤K:=by have:=h.1;have:=h.2;grind
theorem Ab.add{x y K L:Rat}(h:Ab x K)(k:Ab y L):Ab (x+y) (K+L):=by
  obtain ⟨a,b⟩:=h;obtain ⟨c,d⟩:=k;exact ⟨by grind,by grind⟩
theorem Ab.neg{x K:Rat}(h:Ab x K):Ab (-x) K:=by obtain ⟨a,b⟩:=h;exact ⟨by grind,by grind⟩
theorem Ab.sub{x y K L:Rat}(h:Ab x K)(k:Ab y L):Ab (x-y) (K+L):=by
  obtain ⟨a,b⟩:=h;obtain ⟨c,d⟩:=k;exact ⟨by grind,by grind⟩
theorem Ab.mul{x y K L:Rat}(h:Ab x K)(k:Ab y L):Ab (x*y) (K*L):=by
  have n:=h.nonneg
  obtain ⟨a,b⟩:=h;obtain ⟨c,d⟩:=k
  have r1:=rmN (show 0≤K-x by grind) (show 0≤L-y by grind)
  have r2:=rmN (show 0≤K+x by grind) (show 0≤L+y by grind)
  have r3:=rmN (show 0≤K-x by grind) (show 0≤L+y by grind)
  have r4:=rmN (show 0≤K+x by grind) (show 0≤L-y by grind)
  exact ⟨by grind,by grind⟩
theorem Ab.zero{K:Rat}(h:0≤K):Ab 0 K:=⟨by grind,h⟩
theorem Ab.of_mul{c z K:Rat}(hc:0<c)(h:Ab (c*z) (c*K)):Ab z K:=by
  obtain ⟨a,b⟩:=h
  refine ⟨Rat.not_lt.1 fun k=>?_,Rat.not_lt.1 fun k=>?_⟩
  · have:=Rat.mul_pos hc (show 0 < -K-z by grind);grind
  · have:=Rat.mul_pos hc (show 0<z-K by grind);grind
theorem Ab.alt{x K:Rat}(h:Ab x K)(i:Nat):Ab (alt i*x) K:=by
  rcases alt_one i with e | e<;>rw [e]
  · rw [Rat.one_mul];exact h
  · have:=h.neg;rwa [show -1*x = -x by grind]
theorem Ab.congr{x y K:Rat}(h:Ab x K)(e:y=x):Ab y K:=e ▸ h
theorem Ab.sq{x K:Rat}(h:Ab x K):x*x≤K*K:=(h.mul h).2
theorem sum_ab{B:Rat}{b:Nat→Rat}(h:∀ i,Ab (b i) (B*hf i))(n:Nat):Ab (Qg b n) (2*B):=by
  have:=Dec.tail_le (B:=B) (b:=b) h (Nat.zero_le n)
  rw [hf_zero] at this
  have e:Qg b 0=0:=rfl
  rw [e] at this
  exact ⟨by grind,by grind⟩
theorem nat_pos2(j:Nat):(0:Rat)<((j+2:Nat):Rat):=nat_pos (j+1)
theorem cast_add2(j:Nat):((j+2:Nat):Rat)=(j:Rat)+2:=by
  have:=Rat.natCast_add j 2
  exact this
theorem cast_nonneg(j:Nat):(0:Rat)≤(j:Rat):=by exact_mod_cast Nat.zero_le j
theorem hf_nonneg(k:Nat):0≤hf k:=rlL (hf_pos k)
theorem dpw_ab{t:Rat}(h:Ab t 1):∀ k,Ab (dpw t k) (2*hf k)
  | 0=>by rw [hf_zero];exact ⟨by show _≤(1:Rat);grind,by show (1:Rat)≤_;grind⟩
  | 1=>by
    have e:dpw t 1=t:=by
      have h:=dpw_succ t 0
      have e:((0+1:Nat):Rat)=1:=rfl
      rw [e] at h
      have:dpw t 0=1:=rfl
      rw [this] at h
      have h2:dpw t (0+1)=dpw t 1:=rfl
      grind
    rw [e,hf_one];exact h
  | k+2=>by
    have ih:=dpw_ab h (k+1)
    have s:=dpw_succ t (k+1)
    refine Ab.of_mul (nat_pos2 k) ?_
    have m:=h.mul ih
    rw [Rat.one_mul,←s] at m
    refine m.mono ?_
    have e:=hf_succ (k+1)
    have c:=cast_add2 k
    have p:=rmN (cast_nonneg k) (hf_nonneg (k+1+1))
    show 2*hf (k+1)≤((k+2:Nat):Rat)*(2*hf (k+1+1))
    rw [c];grind
def dE(a d:Rat)(j:Nat):Rat:=dpw (a+d) (j+1)-dpw a (j+1)-d*dpw a j
theorem dE_succ(a d:Rat)(j:Nat):((j+2:Nat):Rat)*dE a d (j+1)=d*d*dpw a j+(a+d)*dE a d j:=by
  have s1:=dpw_succ (a+d) (j+1)
  have s2:=dpw_succ a (j+1)
  have s3:=dpw_succ a j
  have c2:=cast_add2 j
  have c1:((j+1:Nat):Rat)=(j:Rat)+1:=Rat.natCast_add j 1
  have c3:((j+1+1:Nat):Rat)=(j:Rat)+2:=c2
  rw [c3] at s1 s2
  rw [c1] at s3
  rw [c2]
  unfold dE
  generalize dpw (a+d) (j+1+1)=X at *
  generalize dpw a (j+1+1)=Y at *
  generalize dpw (a+d) (j+1)=Z at *
  generalize dpw a (j+1)=U at *
  generalize dpw a j=V at *
  grind
theorem dE_ab{a d:Rat}(ha:Ab a 1)(hd:Ab (a+d) 1):∀ j,Ab (dE a d j) (4*(d*d)*hf j)
  | 0=>by
    have e:∀ t:Rat,dpw t 1=t:=fun t=>by
      have h:=dpw_succ t 0
      have e:((0+1:Nat):Rat)=1:=rfl
      rw [e] at h
      have:dpw t 0=1:=rfl
      rw [this] at h
      have h2:dpw t (0+1)=dpw t 1:=rfl
      grind
    have z:dE a d 0=0:=by
      show dpw (a+d) 1-dpw a 1-d*1=0
      rw [e,e];grind
    rw [z,hf_zero]
    have:=sqN d
    exact Ab.zero (by grind)
  | j+1=>by
    have ih:=dE_ab ha hd j
    have s:=dE_succ a d j
    refine Ab.of_mul (nat_pos2 j) ?_
    rw [s]
    have q:=sqN d
    have dd:Ab (d*d) (d*d):=⟨by grind,by grind⟩
    have m1:=dd.mul (dpw_ab ha j)
    have m2:=hd.mul ih
    have e:=hf_succ j
    have c:=cast_add2 j
    cases j with
    | zero =>
      have z:dE a d 0=0:=by
        have:=ih
        have e:∀ t:Rat,dpw t 1=t:=fun t=>by
          have h:=dpw_succ t 0
          have e:((0+1:Nat):Rat)=1:=rfl
          rw [e] at h
          have:dpw t 0=1:=rfl
          rw [this] at h
          have h2:dpw t (0+1)=dpw t 1:=rfl
          grind
        show dpw (a+d) 1-dpw a 1-d*1=0
        rw [e,e];grind
      rw [z]
      rw [hf_zero] at m1
      have z2:(a+d)*0=0:=Rat.mul_zero _
      rw [z2]
      refine (m1.add (Ab.zero (K:=0) Rat.le_refl)).mono ?_
      have p:=rmN q (hf_nonneg 1)
      have h1:=hf_one
      show d*d*(2*1)+0≤((0+2:Nat):Rat)*(4*(d*d)*hf (0+1))
      have c0:((0+2:Nat):Rat)=2:=rfl
      rw [c0]
      have e2:2*(4*(d*d)*hf (0+1))=4*(d*d)*(2*hf 1):=by grind
      rw [e2,h1];grind
    | succ i =>
      refine (m1.add m2).mono ?_
      rw [c]
      have p:=rmN q (hf_nonneg (i+1+1))
      have p2:=rmN (cast_nonneg i) p
      have c1:((i+1:Nat):Rat)=(i:Rat)+1:=Rat.natCast_add i 1
      rw [c1,e]
      grind
theorem hf_mono2(i:Nat):hf (2*i)≤hf i:=hf_le (by omega)
theorem hf_mono3(i:Nat):hf (2*i+1)≤hf i:=hf_le (by omega)
theorem sq_bd{d:Rat}{i j:Nat}(h:i≤j):4*(d*d)*hf j≤4*(d*d)*hf i:=by
  have:=rmL (hf_le h) (sqN d);grind
theorem sin_step{a d:Rat}(ha:Ab a 1)(hd:Ab (a+d) 1)(n:Nat):Ab (Yt (a+d) n-Yt a n-d*YO a n) (8*(d*d)):=by
  have e:Yt (a+d) n-Yt a n-d*YO a n=Qg (fun i=>alt i*dE a d (2*i)) n:=by
    induction n with
    | zero=>show (0:Rat)-0-d*0=0;grind
    | succ n ih =>
      show (Yt (a+d) n+sinT (a+d) n)-(Yt a n+sinT a n)-d*(YO a n+cosT a n)=Qg _ n+_
      rw [←ih];unfold sinT cosT dE;grind
  rw [e]
  exact (sum_ab (B:=4*(d*d)) (fun i=>((dE_ab ha hd (2*i)).alt i).mono (sq_bd (by omega))) n).mono (by grind)
theorem cos_step{a d:Rat}(ha:Ab a 1)(hd:Ab (a+d) 1)(n:Nat):Ab (YO (a+d) n-YO a n+d*Yt a n) (8*(d*d)+4*hf n):=by
  have e:∀ n,YO (a+d) (n+1)-YO a (n+1)+d*Yt a n=Qg (fun i=>-1*(alt i*dE a d (2*i+1))) n:=by
    intro n
    induction n with
    | zero=>show ((0:Rat)+1*1)-(0+1*1)+d*0=0;grind
    | succ n ih =>
      show (YO (a+d) (n+1)+cosT (a+d) (n+1))-(YO a (n+1)+cosT a (n+1))+d*(Yt a n+sinT a n)=Qg _ n+_
      rw [←ih];unfold sinT cosT dE;rw [alt_succ,show 2*(n+1)=2*n+1+1 by omega];grind
  have b:=sum_ab (B:=4*(d*d)) (b:=fun i=>-1*(alt i*dE a d (2*i+1))) (fun i=>by
    have:=(((dE_ab ha hd (2*i+1)).alt i).mono (sq_bd (d:=d) (show i≤2*i+1 by omega))).neg
    exact this.congr (by grind)) n
  rw [←e] at b
  have t1:=(dpw_ab hd (2*n)).alt n
  have t2:=(dpw_ab ha (2*n)).alt n
  have h:=hf_mono2 n
  have u1:YO (a+d) (n+1)=YO (a+d) n+alt n*dpw (a+d) (2*n):=rfl
  have u2:YO a (n+1)=YO a n+alt n*dpw a (2*n):=rfl
  rw [u1,u2] at b
  refine ((b.sub (t1.sub t2)).congr (by grind)).mono (by grind)
theorem sin_ab{a:Rat}(ha:Ab a 1)(n:Nat):Ab (Yt a n) 4 :=
  (sum_ab (B:=2) (fun i=>((dpw_ab ha (2*i+1)).alt i).mono (by have:=hf_mono3 i;grind)) n).mono (by grind)
theorem cos_ab{a:Rat}(ha:Ab a 1)(n:Nat):Ab (YO a n) 4 :=
  (sum_ab (B:=2) (fun i=>((dpw_ab ha (2*i)).alt i).mono (by have:=hf_mono2 i;grind)) n).mono (by grind)
def pw(x:Rat):Nat→Rat
  | 0=>1
  | k+1=>x*pw x k
theorem one_le_cast(n:Nat):(1:Rat)≤((n+1:Nat):Rat):=by
  have c1:((n+1:Nat):Rat)=(n:Rat)+1:=Rat.natCast_add n 1
  have:=cast_nonneg n
  rw [c1];grind
theorem of_nhf{K e:Rat}(K0:0≤K){n:Nat}(h:((n+1:Nat):Rat)*(K*hf (n+1))≤e):K*hf (n+1)≤e:=by
  have p:=rmN K0 (hf_nonneg (n+1))
  have:=rmR (one_le_cast n) p
  grind
def sinQ(a:Nat→Rat)(n:Nat):Rat:=Yt (a n) n
def cosQ(a:Nat→Rat)(n:Nat):Rat:=YO (a n) n
def AbS(a:Nat→Rat)(K:Rat):Prop:=∀ n,Ab (a n) K
section
variable {a b:Nat→Rat} (ha:AbS a 2) (hb:AbS b 2)
include ha hb
end
theorem sin_lip{a c δ:Rat}(ha:Ab a 1)(hc:Ab c 1)(hd:Ab (a-c) δ)(d1:δ≤1)(n:Nat):Ab (Yt a n-Yt c n) (12*δ):=by
  have s:=sin_step hc (d:=a-c) (by rw [show c+(a-c)=a by grind];exact ha) n
  rw [show c+(a-c)=a by grind] at s
  have q:=hd.sq
  have m:=hd.mul (cos_ab hc n)
  have d0:=hd.nonneg
  have dd:=rmL d1 d0
  exact ((s.add m).congr (by grind)).mono (by grind)
theorem cos_lip{a c δ:Rat}(ha:Ab a 1)(hc:Ab c 1)(hd:Ab (a-c) δ)(d1:δ≤1)(n:Nat):Ab (YO a n-YO c n) (12*δ+4*hf n):=by
  have s:=cos_step hc (d:=a-c) (by rw [show c+(a-c)=a by grind];exact ha) n
  rw [show c+(a-c)=a by grind] at s
  have q:=hd.sq
  have m:=hd.mul (sin_ab hc n)
  have d0:=hd.nonneg
  have dd:=rmL d1 d0
  exact ((s.sub m).congr (by grind)).mono (by grind)
theorem tail_ab{b:Nat→Rat}(h:∀ i,Ab (b i) (2*hf i)){n m:Nat}(k:n≤m):Ab (Qg b m-Qg b n) (4*hf n):=by
  have:=Dec.tail_le (B:=2) (b:=b) h k
  exact ⟨by grind,by grind⟩
theorem sin_tail{a:Rat}(ha:Ab a 1){n m:Nat}(k:n≤m):Ab (Yt a m-Yt a n) (4*hf n) :=
  tail_ab (fun i=>((dpw_ab ha (2*i+1)).alt i).mono (by have:=hf_mono3 i;grind)) k
theorem cos_tail{a:Rat}(ha:Ab a 1){n m:Nat}(k:n≤m):Ab (YO a m-YO a n) (4*hf n) :=
  tail_ab (fun i=>((dpw_ab ha (2*i)).alt i).mono (by have:=hf_mono2 i;grind)) k
theorem hf_small{e:Rat}(he:0<e):∃ N,∀ n,N≤n→16*hf n≤e:=by
  obtain ⟨M,hM⟩:=nhf_small 16 e he
  refine ⟨M+1,fun n hn=>?_⟩
  obtain ⟨m,rfl⟩:∃ m,n=m+1:=⟨n-1,by omega⟩
  exact of_nhf (by decide +kernel) (hM (m+1) (by omega))
theorem enc_along{f:Rat→Nat→Rat}(lip:∀ a c δ:Rat,Ab a 1→Ab c 1→Ab (a-c) δ→δ≤1→∀ n,Ab (f a n-f c n) (12*δ+4*hf n))(tail:∀ a:Rat,Ab a 1→∀ n m,n≤m→Ab (f a m-f a n) (4*hf n))
    {a:Nat→Rat} {lo hi L H:Rat} (ha:Enc a lo hi) (l:-(9/10)≤lo) (h:hi≤9/10) (hs:∀ x,lo≤x→x≤hi→Enc (f x) L H):Enc (fun n=>f (a n) n) L H:=fun e he=>by
  have le:=ha.self
  obtain ⟨δ,d0,d1,d2⟩:∃ δ:Rat,0<δ∧δ≤1/10∧48*δ≤e:=by
    by_cases c:e≤1
    · exact ⟨e/48,by grind,by grind,by grind⟩
    · exact ⟨1/48,by grind,by grind,by grind⟩
  obtain ⟨N,hN⟩:=ha δ d0
  obtain ⟨M,hM⟩:=hf_small (e:=e/2) (by grind)
  refine ⟨max N M,fun n hn=>?_⟩
  have h1:=hN n (by omega)
  have h2:=hM n (by omega)
  obtain ⟨c,c1,c2,c3⟩:∃ c,lo≤c∧c≤hi∧Ab (a n-c) δ:=by
    by_cases k:a n<lo
    · exact ⟨lo,Rat.le_refl,le,by grind,by grind⟩
    · by_cases k':hi<a n
      · exact ⟨hi,le,Rat.le_refl,by grind,by grind⟩
      · exact ⟨a n,by grind,by grind,by grind,by grind⟩
  have cb:Ab c 1:=⟨by grind,by grind⟩
  have ab:Ab (a n) 1:=⟨by grind,by grind⟩
  obtain ⟨K,hK⟩:=hs c c1 c2 (e/4) (by grind)
  have t:=tail c cb n (max n K) (by omega)
  have u:=hK (max n K) (by omega)
  have v:=lip (a n) c δ ab cb c3 (by grind) n
  obtain ⟨t1,t2⟩:=t
  obtain ⟨v1,v2⟩:=v
  exact ⟨by grind,by grind⟩
theorem enc_sinQ{a:Nat→Rat}{lo hi L H:Rat}(ha:Enc a lo hi)(l:-(9/10)≤lo)(h:hi≤9/10)(hs:∀ x,lo≤x→x≤hi→Enc (Yt x) L H):Enc (sinQ a) L H :=
  enc_along (f:=Yt) (fun a c δ ha hc hd d1 n=>(sin_lip ha hc hd d1 n).mono (by have:=hf_nonneg n;grind)) (fun _ ha _ _ k=>sin_tail ha k) ha l h hs
theorem enc_cosQ{a:Nat→Rat}{lo hi L H:Rat}(ha:Enc a lo hi)(l:-(9/10)≤lo)(h:hi≤9/10)(hs:∀ x,lo≤x→x≤hi→Enc (YO x) L H):Enc (cosQ a) L H :=
  enc_along (f:=YO) (fun a c δ ha hc hd d1 n=>cos_lip ha hc hd d1 n) (fun _ ha _ _ k=>cos_tail ha k) ha l h hs
def EvB(a:Nat→Rat)(K:Rat):Prop:=∃ N,∀ n,N≤n→Ab (a n) K
section
variable {a b:Nat→Rat} (ha:EvB a 2) (hb:EvB b 2)
include ha hb
end
def cu(n:Int):Rat:=if n % 4=0 then 1 else if n % 4=2 then -1 else 0
def su(n:Int):Rat:=if n % 4=1 then 1 else if n % 4=3 then -1 else 0
theorem enc_turned{S C:Vx}(hS:S.P)(hC:C.P){s c:Nat→Rat}(h:Enc s S.lo.rv S.hi.rv)(k:Enc c C.lo.rv C.hi.rv)(n:Int):Enc (turS n (s,c)).1 (ZD n (S,C)).1.lo.rv (ZD n (S,C)).1.hi.rv∧Enc (turS n (s,c)).2 (ZD n (S,C)).2.lo.rv (ZD n (S,C)).2.hi.rv:=by
  unfold turS ZD
  split
  · exact ⟨k,h.turn hS⟩
  split
  · exact ⟨h.turn hS,k.turn hC⟩
  split
  · exact ⟨k.turn hC,h⟩
  · exact ⟨h,k⟩
theorem enc_less{s t:Nat→Rat}{v u:Vx}{w:Int}(hv:v.P)(hu:u.P)(hw:1≤w)(h:Enc s v.lo.rv v.hi.rv)(k:Enc t u.lo.rv u.hi.rv):Enc (fun n=>s n-t n) (lessV v u w).lo.rv (lessV v u w).hi.rv:=by
  obtain ⟨l,g⟩:=less_best (p:=w) hv hu hw
  have a:=h.add k.neg
  have e:(fun n=>s n + -t n)=fun n=>s n-t n:=funext fun n=>(Rat.sub_eq_add_neg _ _).symm
  rw [e] at a
  exact a.wide (by have:=l.2.1;grind) (by have:=g.2.1;grind)
theorem bv_word{a:Int}(h0:0≤a)(h1:a<18446744073709551616):(BitVec.ofInt 64 a).toNat=a.toNat:=by
  have e:((2^64:Nat):Int)=18446744073709551616:=by decide
  rw [BitVec.toNat_ofInt,e,Int.emod_eq_of_lt h0 h1]
theorem and_pow{a:Int}(h0:0≤a)(h1:a<18446744073709551616){m:Int}(k:Nat)(hk:k≤63)(hm:(BitVec.ofInt 64 m).toNat=2^k-1):ZG .and .u64 a m=a % ((2^k:Nat):Int):=by
  have key:(BitVec.ofInt 64 a &&& BitVec.ofInt 64 m).toNat=a.toNat % 2^k:=by
    rw [BitVec.toNat_and,bv_word h0 h1,hm,Nat.and_two_pow_sub_one_eq_mod]
  show IntKind.u64.wrap ((BitVec.ofInt 64 a &&& BitVec.ofInt 64 m).toNat:Nat)=_
  rw [key,IntKind.wrap_u64]
  have l:=Nat.mod_lt a.toNat (Nat.two_pow_pos k)
  have l2:2^k≤2^63:=Nat.pow_le_pow_right (by decide) hk
  have c:a % ((2^k:Nat):Int)=((a.toNat % 2^k:Nat):Int):=by rw [Int.natCast_emod,Int.toNat_of_nonneg h0]
  rw [c]
  generalize a.toNat % 2^k=r at *
  omega
theorem or_bit{a:Int}(h0:0≤a)(h1:a<4503599627370496):ZG .or .u64 a 4503599627370496=a+4503599627370496:=by
  have hm:(BitVec.ofInt 64 4503599627370496).toNat=2^52:=by decide
  have key:(BitVec.ofInt 64 a ||| BitVec.ofInt 64 4503599627370496).toNat=2^52+a.toNat:=by
    rw [BitVec.toNat_or,bv_word h0 (by omega),hm,Nat.or_comm]
    have:=Nat.two_pow_add_eq_or_of_lt (i:=52) (b:=a.toNat) (by omega) 1
    simpa using this.symm
  show IntKind.u64.wrap ((BitVec.ofInt 64 a ||| BitVec.ofInt 64 4503599627370496).toNat:Nat)=_
  rw [key,IntKind.wrap_u64]
  omega
theorem shr_52(x:Int):shrI .u64 x 52=x/4503599627370496:=by
  show x.fdiv (2^(min (52:Int).toNat 64))=_
  rw [Int.fdiv_eq_ediv_of_nonneg _ (by decide)];rfl
theorem shr_63(x:Int):shrI .u64 x 63=x/9223372036854775808:=by
  show x.fdiv (2^(min (63:Int).toNat 64))=_
  rw [Int.fdiv_eq_ediv_of_nonneg _ (by decide)];rfl
def fexp(x:Int):Int:=x/4503599627370496 % 2048
def ffr(x:Int):Int:=x % 4503599627370496
def fneg(x:Int):Bool:=decide (9223372036854775808≤x)
def fltM(x:Int):Int:=if fexp x=0 then ffr x else ffr x+4503599627370496
def fltE(x:Int):Int:=if fexp x=0 then -1074 else fexp x-1075
def Xg(x:Int):Dx:=mkD (fneg x) (fltM x) (fltE x)
def Yb(x:Int):Dx×Int:=if fexp x=2047 then (⟨false,[],0⟩,5) else (Xg x,0)
def tyFd:TyRow:=⟨68,3,true,[.bool false,.int .i64 0,.int .u64 0],.struct [(0,1,false),(1,1,false),(2,1,false)]⟩
def tysF:List TyRow:=tyFd :: tysU
theorem tysF_ok:RowsOk Tryz.prog tysF:=⟨by kernel_rfl,tysU_ok⟩
theorem dFrom_vc(x:Int)(Q:Tv→Prop):qH ⟨tysF,sRaw8⟩ (fun _=>none) 0 Tryz.f44 [.one (.int .u64 x)] Q=((0:Int)≤52∧br (eqI (IntKind.wrap IntKind.i64 (ZG BinOp.and IntKind.u64 (shrI IntKind.u64 x 52) 2047)) 2047) (Q (Tv.tup [Sv.agg [At.bool false,At.words true [],At.int .i64 0],Sv.one (At.int .i64 5)])) (br (eqI (IntKind.wrap IntKind.i64 (ZG BinOp.and IntKind.u64 (shrI IntKind.u64 x 52) 2047)) 0) ((0:Int)≤63∧Words [ZG BinOp.and IntKind.u64 x 4503599627370495]∧inR ((1:Int)-1075)∧((-4611686018427387904:Int)≤1-1075∧(1:Int)-1075≤4611686018427387904)∧Q (Tv.tup [Sv.agg (dyL true (mkD (eqI (shrI IntKind.u64 x 63) 1) (val [ZG BinOp.and IntKind.u64 x 4503599627370495]) ((1:Int)-1075))),Sv.one (At.int .i64 0)])) ((0:Int)≤63∧Words [ZG BinOp.or IntKind.u64 (ZG BinOp.and IntKind.u64 x 4503599627370495) 4503599627370496]∧inR (IntKind.wrap IntKind.i64 (ZG BinOp.and IntKind.u64 (shrI IntKind.u64 x 52) 2047)-1075)∧((-4611686018427387904:Int)≤IntKind.wrap IntKind.i64 (ZG BinOp.and IntKind.u64 (shrI IntKind.u64 x 52) 2047)-1075∧IntKind.wrap IntKind.i64 (ZG BinOp.and IntKind.u64 (shrI IntKind.u64 x 52) 2047)-1075≤4611686018427387904)∧Q (Tv.tup [Sv.agg (dyL true (mkD (eqI (shrI IntKind.u64 x 63) 1) (val [ZG BinOp.or IntKind.u64 (ZG BinOp.and IntKind.u64 x 4503599627370495) 4503599627370496]) (IntKind.wrap IntKind.i64 (ZG BinOp.and IntKind.u64 (shrI IntKind.u64 x 52) 2047)-1075))),Sv.one (At.int .i64 0)])))):=by kernel_rfl
theorem fexp_bd(x:Int):0≤fexp x∧fexp x<2048:=by unfold fexp;omega
theorem ffr_bd(x:Int):0≤ffr x∧ffr x<4503599627370496:=by unfold ffr;omega
theorem val_one1(n:Int):val [n]=n:=by rw [Qv];simp [val]
theorem words_one{n:Int}(h0:0≤n)(h1:n<18446744073709551616):Words [n]:=fun x hx=>by
  rcases List.mem_singleton.1 hx with rfl;exact ⟨h0,h1⟩
def dFrom:qU:=qF [.i .u64] fun (x:Int)=>(some (zR x),rdT (Yb x))
theorem dFrom_ok:SpecOk Tryz.prog 44 dFrom :=
  zA (qO tysF_ok YG) mixed Tryz.func44 rfl (by decide) (by decide) fun (x:Int) _ hp=>⟨fun _=>none,0,by
    obtain ⟨h0,h1⟩:0≤x∧x<18446744073709551616:=hp
    show qH _ _ _ _ _ (fun t=>t=rdT (Yb x)∨fgT t=rdT (Yb x))
    have e1:IntKind.wrap .i64 (ZG .and .u64 (shrI .u64 x 52) 2047)=fexp x:=by
      rw [shr_52,and_pow (k:=11) (by omega) (by omega) (by decide) (by decide),IntKind.wrap_i64]
      unfold fexp;omega
    have e2:ZG .and .u64 x 4503599627370495=ffr x:=and_pow (k:=52) h0 h1 (by decide) (by decide)
    obtain ⟨b0,b1⟩:=ffr_bd x
    obtain ⟨c0,c1⟩:=fexp_bd x
    have e3:ZG .or .u64 (ffr x) 4503599627370496=ffr x+4503599627370496:=or_bit b0 b1
    have e4:eqI (shrI .u64 x 63) 1=fneg x:=by
      rw [shr_63]
      unfold fneg eqI
      by_cases c:9223372036854775808≤x
      · rw [decide_eq_true c,show x/9223372036854775808=1 by omega];rfl
      · rw [decide_eq_false c,show x/9223372036854775808=0 by omega];rfl
    refine (dFrom_vc x _).mpr ?_
    rw [e1,e2,e3,e4,val_one1,val_one1]
    refine ⟨by omega,qB (fun h=>.inr ?_) fun h=>qB (fun k=>⟨by omega,words_one b0 (by omega),⟨by omega,by omega⟩,⟨by omega,by omega⟩,.inr ?_⟩) fun k=>⟨by omega,words_one (by omega) (by omega),⟨by omega,by omega⟩,⟨by omega,by omega⟩,.inr ?_⟩⟩
    · rw [Yb,if_pos (zX.1 h)];rfl
    · rw [Yb,if_neg (qR.1 h),Xg,fltM,fltE,if_pos (zX.1 k),if_pos (zX.1 k)];rfl
    · rw [Yb,if_neg (qR.1 h),Xg,fltM,fltE,if_neg (qR.1 k),if_neg (qR.1 k)];rfl⟩
theorem oFin_vc(x:Int)(Q:Tv→Prop):qH ⟨tysF,sRaw8⟩ (fun _=>none) 0 Tryz.f48 [.one (.int .u64 x)] Q=((9223372036854775808:Int)≠0∧Q (bT (ltI (Int.tmod x 9223372036854775808) 9218868437227405312))):=by kernel_rfl
def finB(x:Int):Bool:=!eqI (fexp x) 2047
def oFin:qU:=qF [.i .u64] fun (x:Int)=>(some (zR x),bT (finB x))
theorem oFin_ok:SpecOk Tryz.prog 48 oFin :=
  qG (qO tysF_ok YG) mixed Tryz.func48 rfl (by decide) (by decide) fun (x:Int) _ hp=>⟨fun _=>none,0,by
    obtain ⟨h0,h1⟩:0≤x∧x<18446744073709551616:=hp
    show qH _ _ _ _ _ (fun t=>t=bT (finB x))
    refine (oFin_vc x _).mpr ⟨by omega,?_⟩
    have e:ltI (x.tmod 9223372036854775808) 9218868437227405312=finB x:=by
      rw [Int.tmod_eq_emod_of_nonneg h0]
      unfold ltI finB eqI fexp
      by_cases c:x % 9223372036854775808<9218868437227405312
      · have:x/4503599627370496 % 2048≠2047:=by omega
        rw [decide_eq_true c];simp [this]
      · have:x/4503599627370496 % 2048=2047:=by omega
        rw [decide_eq_false c,this];rfl
    rw [e]⟩
theorem oSpl_vc(x:Int)(Q:Tv→Prop):qH ⟨tysF,sRaw8⟩ (fun _=>none) 0 Tryz.f50 [.one (.int .u64 x)] Q=((4503599627370496:Int)≠0∧(2048:Int)≠0∧(4503599627370496:Int)≠0∧Q (Tv.sv (Sv.agg [At.bool (leI 9223372036854775808 x),At.int .i64 (IntKind.wrap IntKind.i64 (Int.tmod (IntKind.wrap IntKind.u64 (Int.tdiv x 4503599627370496)) 2048)),At.int .u64 (Int.tmod x 4503599627370496)]))):=by kernel_rfl
def splX(n:Bool)(e f:Int):Tv:=.sv (.agg [.bool n,.int .i64 e,.int .u64 f])
def oSpl:qU:=qF [.i .u64] fun (x:Int)=>(some (zR x),splX (fneg x) (fexp x) (ffr x))
theorem oSpl_ok:SpecOk Tryz.prog 50 oSpl :=
  qG (qO tysF_ok YG) mixed Tryz.func50 rfl (by decide) (by decide) fun (x:Int) _ hp=>⟨fun _=>none,0,by
    obtain ⟨h0,h1⟩:0≤x∧x<18446744073709551616:=hp
    show qH _ _ _ _ _ (fun t=>t=splX (fneg x) (fexp x) (ffr x))
    refine (oSpl_vc x _).mpr ⟨by omega,by omega,by omega,?_⟩
    have e1:IntKind.wrap .i64 (Int.tmod (IntKind.wrap .u64 (Int.tdiv x 4503599627370496)) 2048)=fexp x:=by
      rw [Int.tdiv_eq_ediv_of_nonneg h0,IntKind.wrap_u64,Int.tmod_eq_emod_of_nonneg (by omega),IntKind.wrap_i64]
      unfold fexp;omega
    rw [e1,Int.tmod_eq_emod_of_nonneg h0];rfl⟩
def sFr:List (FuncId×qU):=[(48,oFin),(50,oSpl),(52,nOf),(51,fForm)]
theorem sFr_ok:SpecsOk Tryz.prog sFr:=⟨oFin_ok,oSpl_ok,nOf_ok,fForm_ok,trivial⟩
theorem fFrom_vc(x:Int)(Q:Tv→Prop):qH ⟨tysF,sFr⟩ (fun _=>none) 0 Tryz.f12 [.one (.int .u64 x)] Q=(zR x∧br (!finB x) (Q (Tv.tup [Sv.agg [At.bool false,At.words true [],At.int .i64 0],Sv.one (At.int .i64 5)])) (zR x∧br (ltI 0 (fexp x)) (inR (fexp x-1075)∧zR (IntKind.wrap IntKind.u64 (ffr x+4503599627370496))∧((-4611686018427387904:Int)≤fexp x-1075∧fexp x-1075≤4611686018427387904)∧true=true∧Q (Tv.tup [Sv.agg (dyL true (mkD (fneg x) (val (ws (IntKind.wrap IntKind.u64 (ffr x+4503599627370496)))) (fexp x-1075))),Sv.one (At.int .i64 0)])) (zR (ffr x)∧((-4611686018427387904:Int)≤(-1074)∧(-1074:Int)≤4611686018427387904)∧true=true∧Q (Tv.tup [Sv.agg (dyL true (mkD (fneg x) (val (ws (ffr x))) (-1074))),Sv.one (At.int .i64 0)])))):=by kernel_rfl
def fFrom:qU:=qF [.i .u64] fun (x:Int)=>(some (zR x),rdT (Yb x))
theorem fFrom_ok:SpecOk Tryz.prog 12 fFrom :=
  zA (qO tysF_ok sFr_ok) mixed Tryz.func12 rfl (by decide) (by decide) fun (x:Int) _ hp=>⟨fun _=>none,0,by
    obtain ⟨h0,h1⟩:0≤x∧x<18446744073709551616:=hp
    show qH _ _ _ _ _ (fun t=>t=rdT (Yb x)∨fgT t=rdT (Yb x))
    obtain ⟨b0,b1⟩:=ffr_bd x
    obtain ⟨c0,c1⟩:=fexp_bd x
    have e1:IntKind.wrap .u64 (ffr x+4503599627370496)=ffr x+4503599627370496:=Qu (by omega) (by omega)
    refine (fFrom_vc x _).mpr ⟨⟨h0,h1⟩,qB (fun h=>.inr ?_) fun h=>⟨⟨h0,h1⟩,qB (fun k=>?_) fun k=>?_⟩⟩
    · have h:finB x=false:=QE h
      unfold finB at h
      rw [Yb,if_pos (zX.1 (q9 h))];rfl
    · have h:finB x=true:=q9 h
      unfold finB at h
      have k:=qW.1 k
      rw [e1,qN (by omega)]
      refine ⟨⟨by omega,by omega⟩,⟨by omega,by omega⟩,⟨by omega,by omega⟩,rfl,.inr ?_⟩
      rw [Yb,if_neg (qR.1 (QE h)),Xg,fltM,fltE,if_neg (by omega),if_neg (by omega)];rfl
    · have h:finB x=true:=q9 h
      unfold finB at h
      have k:=qJ.1 k
      rw [qN (by omega)]
      refine ⟨⟨by omega,by omega⟩,⟨by omega,by omega⟩,rfl,.inr ?_⟩
      rw [Yb,if_neg (qR.1 (QE h)),Xg,fltM,fltE,if_pos (by omega),if_pos (by omega)];rfl⟩
def zM(x:Dx)(p:Int):(Vx×Vx)×Int:=if (zB x (p+32)).2.2=0 then (if (Z1 (zB x (p+32)).2.1 (p+24)).2=0 then (ZD (zB x (p+32)).1 (Z1 (zB x (p+32)).2.1 (p+24)).1,0) else ((zeroIv,zeroIv),(Z1 (zB x (p+32)).2.1 (p+24)).2)) else ((zeroIv,zeroIv),(zB x (p+32)).2.2)
def z7(x:Dx)(p:Int):(Vx×Vx)×Int:=if x.fitsB=true∧8≤p∧p≤2048 then (if (Z4 x (p+24)).2.2=0 then (ZD (Z4 x (p+24)).1 (ZN (Z4 x (p+24)).2.1 (p+24),zO (Z4 x (p+24)).2.1 (p+24)),0) else ((zeroIv,zeroIv),(Z4 x (p+24)).2.2)) else ((zeroIv,zeroIv),2)
def rhS(x:Rat)(n:Int)(i:Nat):Rat:=x-(n:Rat)*(1/2*piS i)
structure QNum (x:Dx) (p:Int) (R:Vx) (n:Int):Prop where
  enc:Enc (rhS x.rv n) R.lo.rv R.hi.rv
  q:R.P
  v:VN (p2 (-p)) R
  r:qT R=true
  lo:-(9/10)≤R.lo.rv
  hi:R.hi.rv≤9/10
  near:x.rv=0∧n=0∨∃ w,8≤w∧w≤8192∧∀ c,InV (zW w) c→NearI n (x.rv*c⁻¹)
theorem half_enc{d:Rat}{h:Vx}(k:HfIv d h):Enc (fun i=>1/2*piS i) h.lo.rv h.hi.rv:=(k.enc.scale (c:=1/2) (by decide +kernel)).wide (by grind) (by grind)
theorem rest_enc{h:Vx}{d:Rat}(k:HfIv d h){x:Dx}(hx:0≤x.m){w:Int}(hw:1≤w):Enc (rhS x.rv (nI h x w)) (zY h x w).lo.rv (zY h x w).hi.rv:=by
  have np:0≤(nW h x w).m:=nearD_p
  have a:=enc_point hx
  have b:=enc_point np
  have c:=enc_times (p:=w+64) (zJ (nW h x w)) k.p (by omega) b (half_enc k)
  have e:=enc_less (w:=w) (zJ x) (Q9 (prodV (qD (nW h x w)) h) (w+64)) hw a c
  have en:(nW h x w).rv=(nI h x w:Rat):=(YK (d:=nW h x w) Yg).symm
  rw [en] at e
  exact e
theorem vn_wide{p:Int}{R:Vx}{z:Rat}(v:VN (p2 (-p)) R)(hp:8≤p)(i:InV R z)(z1:-(4/5)≤z)(z2:z≤4/5):-(9/10)≤R.lo.rv∧R.hi.rv≤9/10:=by
  have e:p2 (-p)≤1/16:=by
    have:=Qz (show -p≤-4 by omega)
    have e:p2 (-4)=1/16:=by decide +kernel
    rw [e] at this;exact this
  obtain ⟨i1,i2⟩:=i
  rcases v with ⟨a,b⟩|⟨a,b,c⟩|⟨a,b,c⟩
  · rw [a,b];exact ⟨by decide +kernel,by decide +kernel⟩
  · have m:=rmR e (rlL a)
    exact ⟨by grind,by grind⟩
  · have m:=rmR e (rlL a)
    exact ⟨by grind,by grind⟩
theorem quar_num{x:Dx}(hx:0≤x.m){p:Int}(h:(zB x p).2.2=0):∃ n:Int,(zB x p).1=n % 4∧QNum x p (zB x p).2.1 n:=by
  have fy:OneF (qC x):=oneD_f hx
  have ey:(qC x).rv=x.rv:=Qs hx
  have z0:zeroIv.lo.rv=0:=Z2
  have z1:zeroIv.hi.rv=0:=Z2
  have cq:=cq_of h
  rcases ZC x p with ⟨c,_⟩|⟨_,z,q⟩|⟨_,z,t,q⟩|⟨_,z,t,q⟩|⟨_,z,t,w,q⟩
  · exact absurd cq c
  · have x0:x.rv=0:=by rw [←ey];exact Ye z
    rw [q]
    refine ⟨0,rfl,?_,⟨Int.le_refl _,Int.le_refl _⟩,.inl ⟨z0,z1⟩,zero_right,by rw [z0];decide +kernel,by rw [z1];decide +kernel,.inl ⟨x0,rfl⟩⟩
    have e:rhS x.rv 0=fun _=>0:=funext fun i=>by
      unfold rhS;rw [x0]
      have:((0:Int):Rat)=0:=rfl
      rw [this];grind
    show Enc (rhS x.rv 0) zeroIv.lo.rv zeroIv.hi.rv
    rw [e,z0,z1];exact Enc.const 0
  · rw [q] at h;cases h
  · rw [q] at h;cases h
  · have hf:=Ya q.w0 (show w≤65000 by have:=q.w1;omega)
    have w1:1≤w:=by have:=q.w0;omega
    have rp:(zY (zW w) (qC x) w).P:=⟨Y8,Y8⟩
    have c2:=cq.2.1
    have nb:Qj (zY (zW w) (qC x) w) p=true:=by
      rw [Qj,q.right,q.nar,zS.2 (show 0≤p by omega)];rfl
    have vn:=YN rp nb
    obtain ⟨cc,dc,_,d1,d2⟩:=hf.common hf
    have n1:=sure_near hf fy.p w1 q.sure dc
    have r1:=rest_in hf fy.p w1 dc
    rw [ey] at n1 r1
    have m1:=hf.enc.meets piS_enc
    have m2:=hf.nar
    have m3:p2 (-3-w)≤1/100:=by
      have:=Qz (show -3-w≤-7 by have:=q.w0;omega)
      have e:p2 (-7)=1/128:=by decide +kernel
      rw [e] at this;grind
    have m4:cc≤8/5:=by have:=dc.2;grind
    obtain ⟨b1,b2⟩:=near_bd2 d1 m4 n1 rfl
    obtain ⟨g1,g2⟩:=vn_wide vn c2 r1 b1 b2
    have en:=rest_enc hf fy.p w1
    rw [ey] at en
    rw [q.eq]
    exact ⟨nI (zW w) (qC x) w,rfl,en,rp,vn,q.right,g1,g2,.inr ⟨w,q.w0,q.w1,fun c hc=>by have:=sure_near hf fy.p w1 q.sure hc;rwa [ey] at this⟩⟩
theorem near_zero0:NearI 0 0:=⟨by decide +kernel,by decide +kernel,fun _=>by decide⟩
theorem small_of{R:Vx}(le:R.lo.rv≤R.hi.rv)(h1:-(9/10)≤R.lo.rv)(h2:R.hi.rv≤9/10):Qa R.lo∧Qa R.hi:=⟨⟨by grind,by grind⟩,⟨by grind,by grind⟩⟩
structure PairQ (x:Dx) (p n:Int) (S C:Vx):Prop where
  k:∃ R,PairOk R (p2 (-19-p)) S C
  s:Enc (sinQ (rhS x.rv n)) S.lo.rv S.hi.rv
  c:Enc (cosQ (rhS x.rv n)) C.lo.rv C.hi.rv
theorem qnum_pair{x:Dx}{p n:Int}{R:Vx}(h:QNum x (p+32) R n)(p0:8≤p)(p1:p≤2064):(Z1 R (p+24)=((zeroIv,zeroIv),3)∧qT (qV (ZA (QT R) (p+24)) (p+24+8))=false)∨∃ S C,Z1 R (p+24)=((S,C),0)∧PairQ x p n S C∧PairOk R (p2 (-19-p)) S C:=by
  obtain ⟨s1,s2⟩:=small_of h.enc.self h.lo h.hi
  have f:=QY h.r
  have F1:=fault_of (p:=p+24) h.q.1 f.1 s1 (by omega) (by omega)
  have F2:=fault_of (p:=p+24) h.q.2 f.2.1 s2 (by omega) (by omega)
  have e5:p2 (5-(p+24))=p2 (-19-p):=by congr 1;omega
  rcases pair_ok h.q h.r F1 F2 h.v (rlL (qL _)) (Qz (by omega)) with e | ⟨e,K⟩
  · exact .inl e
  · rw [e5] at K
    exact .inr ⟨_,_,e,⟨⟨R,K⟩,enc_sinQ h.enc h.lo h.hi fun z a b=>K.sin z a b,enc_cosQ h.enc h.lo h.hi fun z a b=>K.cos z a b⟩,K⟩
def eP(b:Vx×Vx):Prop:=(eB 4611686018427387904 b.1.lo∧eB 4611686018427387904 b.1.hi)∧eB 4611686018427387904 b.2.lo∧eB 4611686018427387904 b.2.hi
theorem divV_sm{v u:Vx}{N:Nat}{p:Int}(hv:v.P)(hu:u.P)(sv:v.Sm N)(su:u.Sm N)(p0:0≤p)(p1:p≤N):(Zx v u p).Sm (100*N+100):=by
  have o:∀ {a b:Dx} {up:Bool},0≤a.m→0≤b.m→a.Sm N→b.Sm N→(Qc a b p up).Sm (100*N+100):=fun ha hb sa sb=>overD_sm ha hb sa sb p0 p1
  have q:∀ up,(quoV v u p up).Sm (100*N+100):=fun up=>spanL_sm (o hv.1 hu.1 sv.1 su.1) (o hv.1 hu.2 sv.1 su.2) (o hv.2 hu.1 sv.2 su.1) (o hv.2 hu.2 sv.2 su.2)
  exact ⟨(q false).1,(q true).2⟩
theorem fltD_p(x:Int):0≤(Xg x).m:=mkD_p
theorem sineH_sm{t:Dx}{p:Int}(ht:0≤t.m)(h:preS t p):(QG t p).Sm 6291457:=by
  unfold QG
  split
  · exact ⟨⟨by decide,by decide,by decide⟩,⟨by decide,by decide,by decide⟩⟩
  · obtain ⟨s,s1,p0,p1⟩:=h
    exact timesV_sm (N:=262144) (zJ t) (altR_iv (sqR_alt ht s1.1 s1.2 (f:=2) (by decide) (by decide) (by omega) (by omega))).p (Xd ht s) (altR_sm ht s1 (by decide) (by decide) (by omega) (by omega)) (by omega)
theorem cosineH_sm{t:Dx}{p:Int}(ht:0≤t.m)(h:preS t p):(qP t p).Sm 6291457:=by
  obtain ⟨s,s1,p0,p1⟩:=h
  exact (altR_sm ht s1 (by decide) (by decide) (by omega) (by omega)).mono (by omega)
theorem over_sm{v:Vx}{p:Int}(hv:v.P)(h1:preS v.lo p)(h2:preS v.hi p):(ZN v p).Sm 6291457∧(zO v p).Sm 6291457:=by
  have a:=sineH_sm hv.1 h1
  have b:=sineH_sm hv.2 h2
  have c:=cosineH_sm hv.1 h1
  have d:=cosineH_sm hv.2 h2
  have o:(mkS 1 0).Sm 6291457:=(mkS_sm6 (n:=1) (by omega)).mono (by omega)
  have hh:(YP (qP v.lo p) (qP v.hi p)).Sm 6291457:=by
    unfold YP
    refine ⟨?_,?_⟩
    · show (if _ then _ else _:Dx).Sm _
      split
      · exact d.1
      · exact c.1
    · show (if _ then _ else _:Dx).Sm _
      split
      · exact d.2
      · exact c.2
  refine ⟨⟨a.1,b.2⟩,?_⟩
  unfold zO
  split
  · exact ⟨hh.1,o⟩
  · exact hh
theorem zero_sm{N:Nat}:zeroIv.Sm N:=⟨⟨by show (0:Nat)≤N;omega,by show -(N:Int)≤0;omega,by show (0:Int)≤N;omega⟩,⟨by show (0:Nat)≤N;omega,by show -(N:Int)≤0;omega,by show (0:Int)≤N;omega⟩⟩
theorem zero_P:zeroIv.P:=⟨Int.le_refl _,Int.le_refl _⟩
theorem turnV_sm{v:Vx}{N:Nat}(hv:v.P)(h:v.Sm N):(ZF v).Sm (N+N):=⟨Yd h.2 hv.2,Yd h.1 hv.1⟩
theorem turnV_P(v:Vx):(ZF v).P:=⟨YQ,YQ⟩
structure WOk (v:Vx):Prop where
  p:v.P
  s:v.Sm 16777216
  o:v=zeroIv∨Off0 v
  l:v.lo.rv≤v.hi.rv
theorem WOk.turn{v:Vx}(hp:v.P)(hs:v.Sm 6291457)(o:v=zeroIv∨Off0 v)(l:v.lo.rv≤v.hi.rv):WOk (ZF v):=⟨turnV_P v,(turnV_sm hp hs).mono (by omega),by
  rcases o with o | o
  · exact .inl (by rw [o,turn_zero])
  · exact .inr (o.turn hp),by rw [(turn_rv hp).1,(turn_rv hp).2];grind⟩
theorem off_m{v:Vx}(h:WOk v)(o:Off0 v):v.lo.m≠0∧v.hi.m≠0:=by
  have l:=h.l
  rcases o with o | o
  · exact ⟨rv_ne (by grind),rv_ne (by grind)⟩
  · exact ⟨rv_ne (by grind),rv_ne (by grind)⟩
theorem fltD_f(x:Int):OneF (Xg x):=⟨fneg x,fltM x,fltE x,by unfold fltM;have:=ffr_bd x;split<;>omega,rfl⟩
theorem fltD_bd{x:Int}(h:fexp x≠2047):(Xg x).Bd 1074 1024:=by
  have a:=ffr_bd x
  have b:=fexp_bd x
  have m0:0≤fltM x∧fltM x<9007199254740992:=by unfold fltM;split<;>omega
  have e0:-1074≤fltE x∧fltE x≤971:=by unfold fltE;split<;>omega
  have bl:blen (fltM x)≤53:=QW (by omega)
  exact mkD_bd m0.1 (by omega) (by omega) (by omega) (by omega)
theorem hasV_of{v:Vx}(h:qT v=true){d:Dx}(hf:d.fitsB=true)(i:InV v d.rv):hasV v d=true:=by
  rw [hasV,h,hf,zS.2 (cmpD_le.2 i.1),zS.2 (cmpD_le.2 i.2)];rfl
theorem encl_parts{v u:Vx}{p:Int}(h:enclB v u p=true):qT v=true∧Qj v p=true:=by
  unfold enclB at h
  simp only [Bool.and_eq_true] at h
  exact ⟨h.1,h.2.2.1⟩
theorem one_fits:(mkS 1 0).fitsB=true:=small_fits (by omega)
theorem SpecOk.weaken{P:Program}{f:FuncId}{sp sp':qU}(h:SpecOk P f sp)(k:∀ l,(match (sp' l).1 with | none=>True | some p=>p)→(match (sp l).1 with | none=>True | some p=>p)∧(sp' l).2=(sp l).2):SpecOk P f sp' :=
  ⟨h.fn,fun C w vs l hC hX hT hvs hp=>by
    obtain ⟨a,b⟩:=k l hp
    rw [b];exact h.run C w vs l hC hX hT hvs a⟩
def tyIv2:TyRow:=⟨90,12,true,zV ++ zV,.array 2 6 true⟩
def tyTn:TyRow:=⟨93,4,true,[.int .i64 0,.int .i64 0,.bool false,.bool false],.struct [(0,1,false),(1,1,false),(2,1,false),(3,1,false)]⟩
def tyTn4:TyRow:=⟨94,16,true,[.int .i64 0,.int .i64 0,.bool false,.bool false,.int .i64 0,.int .i64 0,.bool false,.bool false,.int .i64 0,.int .i64 0,.bool false,.bool false,.int .i64 0,.int .i64 0,.bool false,.bool false],.array 4 4 true⟩
def tyFu2:TyRow:=⟨22,1,false,[.int .u8 0],.int .u8⟩
def tysR:List TyRow:=tyTn4 :: tyTn :: tyIv2 :: tyFu2 :: tys4
theorem Yh:RowsOk Tryz.prog tysR:=⟨by kernel_rfl,by kernel_rfl,by kernel_rfl,by kernel_rfl,Zy⟩
def sgnV(v:Vx)(b:Bool):Vx:=if b=true then ZF v else v
def wSg(g:Vx→Bool→Vx):qU:=qF [.v,.b] fun (v:Vx) (b:Bool)=>(some (eB 4611686018427387904 v.lo∧eB 4611686018427387904 v.hi),vF (g v b))
theorem rSg_vc(v:Vx)(b:Bool)(Q:Tv→Prop):qH ⟨tysR,sRaw8⟩ (fun _=>none) 0 Tryz.f77 [.agg (ivL false v),.one (.bool b)] Q=(br b ((eB 4611686018427387904 v.lo∧eB 4611686018427387904 v.hi)∧Q (Tv.sv (Sv.agg (ivL true (ZF v))))) (Q (Tv.sv (Sv.agg (ivL false v))))):=by kernel_rfl
def sTb(K:Int)(pq:Dx→Int→Prop)(rf:Dx→Int→Vx×Int)(bo:Vx→Int→(Vx×Vx)×Int)(sg:Vx→Bool→Vx):List (FuncId×qU):=[(75,qF [.d,.i .i64] fun (x:Dx) (p:Int)=>(some (pq x p),quT (K,rf x p))),(76,qF [.v,.i .i64] fun (v:Vx) (p:Int)=>(none,reT2 (bo v p))),(77,wSg sg)]
theorem rBo0_vc(x:Dx)(p:Int)(pq:Dx→Int→Prop)(rf:Dx→Int→Vx×Int)(bo:Vx→Int→(Vx×Vx)×Int)(sg:Vx→Bool→Vx)(Q:Tv→Prop):qH ⟨tysR,sTb 0 pq rf bo sg⟩ (fun _=>none) 0 Tryz.f45 [.agg (dyL false x),.one (.int .i64 p)] Q=(inR (p+32)∧pq x (p+32)∧br (neI (rf x (p+32)).snd 0) (Q (Tv.tup [Sv.agg [At.bool false,At.words true [],At.int .i64 0,At.bool false,At.words true [],At.int .i64 0],Sv.agg [At.bool false,At.words true [],At.int .i64 0,At.bool false,At.words true [],At.int .i64 0],Sv.one (At.int .i64 (rf x (p+32)).snd)])) (inR (p+24)∧((0:Int)≤0∧(0:Int)<(↑(2:Nat):Int))∧((0:Int)≤1∧(1:Int)<(↑(2:Nat):Int))∧br (neI (bo (rf x (p+32)).fst (p+24)).snd 0) (Q (Tv.tup [Sv.agg [At.bool false,At.words true [],At.int .i64 0,At.bool false,At.words true [],At.int .i64 0],Sv.agg [At.bool false,At.words true [],At.int .i64 0,At.bool false,At.words true [],At.int .i64 0],Sv.one (At.int .i64 (bo (rf x (p+32)).fst (p+24)).snd)])) (((0:Int)≤0∧(0:Int)<(↑(4:Nat):Int))∧((0:Int)≤0∧(0:Int)<(↑(2:Nat):Int))∧(eB 4611686018427387904 (bo (rf x (p+32)).fst (p+24)).fst.fst.lo∧eB 4611686018427387904 (bo (rf x (p+32)).fst (p+24)).fst.fst.hi)∧((0:Int)≤1∧(1:Int)<(↑(2:Nat):Int))∧(eB 4611686018427387904 (bo (rf x (p+32)).fst (p+24)).fst.snd.lo∧eB 4611686018427387904 (bo (rf x (p+32)).fst (p+24)).fst.snd.hi)∧true=true∧Q (Tv.tup [Sv.agg (ivL false (sg (bo (rf x (p+32)).fst (p+24)).fst.fst false)),Sv.agg (ivL false (sg (bo (rf x (p+32)).fst (p+24)).fst.snd false)),Sv.one (At.int .i64 0)])))):=by kernel_rfl
theorem rBo1_vc(x:Dx)(p:Int)(pq:Dx→Int→Prop)(rf:Dx→Int→Vx×Int)(bo:Vx→Int→(Vx×Vx)×Int)(sg:Vx→Bool→Vx)(Q:Tv→Prop):qH ⟨tysR,sTb 1 pq rf bo sg⟩ (fun _=>none) 0 Tryz.f45 [.agg (dyL false x),.one (.int .i64 p)] Q=(inR (p+32)∧pq x (p+32)∧br (neI (rf x (p+32)).snd 0) (Q (Tv.tup [Sv.agg [At.bool false,At.words true [],At.int .i64 0,At.bool false,At.words true [],At.int .i64 0],Sv.agg [At.bool false,At.words true [],At.int .i64 0,At.bool false,At.words true [],At.int .i64 0],Sv.one (At.int .i64 (rf x (p+32)).snd)])) (inR (p+24)∧((0:Int)≤0∧(0:Int)<(↑(2:Nat):Int))∧((0:Int)≤1∧(1:Int)<(↑(2:Nat):Int))∧br (neI (bo (rf x (p+32)).fst (p+24)).snd 0) (Q (Tv.tup [Sv.agg [At.bool false,At.words true [],At.int .i64 0,At.bool false,At.words true [],At.int .i64 0],Sv.agg [At.bool false,At.words true [],At.int .i64 0,At.bool false,At.words true [],At.int .i64 0],Sv.one (At.int .i64 (bo (rf x (p+32)).fst (p+24)).snd)])) (((0:Int)≤1∧(1:Int)<(↑(4:Nat):Int))∧((0:Int)≤1∧(1:Int)<(↑(2:Nat):Int))∧(eB 4611686018427387904 (bo (rf x (p+32)).fst (p+24)).fst.snd.lo∧eB 4611686018427387904 (bo (rf x (p+32)).fst (p+24)).fst.snd.hi)∧((0:Int)≤0∧(0:Int)<(↑(2:Nat):Int))∧(eB 4611686018427387904 (bo (rf x (p+32)).fst (p+24)).fst.fst.lo∧eB 4611686018427387904 (bo (rf x (p+32)).fst (p+24)).fst.fst.hi)∧true=true∧Q (Tv.tup [Sv.agg (ivL false (sg (bo (rf x (p+32)).fst (p+24)).fst.snd false)),Sv.agg (ivL false (sg (bo (rf x (p+32)).fst (p+24)).fst.fst true)),Sv.one (At.int .i64 0)])))):=by kernel_rfl
theorem rBo2_vc(x:Dx)(p:Int)(pq:Dx→Int→Prop)(rf:Dx→Int→Vx×Int)(bo:Vx→Int→(Vx×Vx)×Int)(sg:Vx→Bool→Vx)(Q:Tv→Prop):qH ⟨tysR,sTb 2 pq rf bo sg⟩ (fun _=>none) 0 Tryz.f45 [.agg (dyL false x),.one (.int .i64 p)] Q=(inR (p+32)∧pq x (p+32)∧br (neI (rf x (p+32)).snd 0) (Q (Tv.tup [Sv.agg [At.bool false,At.words true [],At.int .i64 0,At.bool false,At.words true [],At.int .i64 0],Sv.agg [At.bool false,At.words true [],At.int .i64 0,At.bool false,At.words true [],At.int .i64 0],Sv.one (At.int .i64 (rf x (p+32)).snd)])) (inR (p+24)∧((0:Int)≤0∧(0:Int)<(↑(2:Nat):Int))∧((0:Int)≤1∧(1:Int)<(↑(2:Nat):Int))∧br (neI (bo (rf x (p+32)).fst (p+24)).snd 0) (Q (Tv.tup [Sv.agg [At.bool false,At.words true [],At.int .i64 0,At.bool false,At.words true [],At.int .i64 0],Sv.agg [At.bool false,At.words true [],At.int .i64 0,At.bool false,At.words true [],At.int .i64 0],Sv.one (At.int .i64 (bo (rf x (p+32)).fst (p+24)).snd)])) (((0:Int)≤2∧(2:Int)<(↑(4:Nat):Int))∧((0:Int)≤0∧(0:Int)<(↑(2:Nat):Int))∧(eB 4611686018427387904 (bo (rf x (p+32)).fst (p+24)).fst.fst.lo∧eB 4611686018427387904 (bo (rf x (p+32)).fst (p+24)).fst.fst.hi)∧((0:Int)≤1∧(1:Int)<(↑(2:Nat):Int))∧(eB 4611686018427387904 (bo (rf x (p+32)).fst (p+24)).fst.snd.lo∧eB 4611686018427387904 (bo (rf x (p+32)).fst (p+24)).fst.snd.hi)∧true=true∧Q (Tv.tup [Sv.agg (ivL false (sg (bo (rf x (p+32)).fst (p+24)).fst.fst true)),Sv.agg (ivL false (sg (bo (rf x (p+32)).fst (p+24)).fst.snd true)),Sv.one (At.int .i64 0)])))):=by kernel_rfl
theorem rBo3_vc(x:Dx)(p:Int)(pq:Dx→Int→Prop)(rf:Dx→Int→Vx×Int)(bo:Vx→Int→(Vx×Vx)×Int)(sg:Vx→Bool→Vx)(Q:Tv→Prop):qH ⟨tysR,sTb 3 pq rf bo sg⟩ (fun _=>none) 0 Tryz.f45 [.agg (dyL false x),.one (.int .i64 p)] Q=(inR (p+32)∧pq x (p+32)∧br (neI (rf x (p+32)).snd 0) (Q (Tv.tup [Sv.agg [At.bool false,At.words true [],At.int .i64 0,At.bool false,At.words true [],At.int .i64 0],Sv.agg [At.bool false,At.words true [],At.int .i64 0,At.bool false,At.words true [],At.int .i64 0],Sv.one (At.int .i64 (rf x (p+32)).snd)])) (inR (p+24)∧((0:Int)≤0∧(0:Int)<(↑(2:Nat):Int))∧((0:Int)≤1∧(1:Int)<(↑(2:Nat):Int))∧br (neI (bo (rf x (p+32)).fst (p+24)).snd 0) (Q (Tv.tup [Sv.agg [At.bool false,At.words true [],At.int .i64 0,At.bool false,At.words true [],At.int .i64 0],Sv.agg [At.bool false,At.words true [],At.int .i64 0,At.bool false,At.words true [],At.int .i64 0],Sv.one (At.int .i64 (bo (rf x (p+32)).fst (p+24)).snd)])) (((0:Int)≤3∧(3:Int)<(↑(4:Nat):Int))∧((0:Int)≤1∧(1:Int)<(↑(2:Nat):Int))∧(eB 4611686018427387904 (bo (rf x (p+32)).fst (p+24)).fst.snd.lo∧eB 4611686018427387904 (bo (rf x (p+32)).fst (p+24)).fst.snd.hi)∧((0:Int)≤0∧(0:Int)<(↑(2:Nat):Int))∧(eB 4611686018427387904 (bo (rf x (p+32)).fst (p+24)).fst.fst.lo∧eB 4611686018427387904 (bo (rf x (p+32)).fst (p+24)).fst.fst.hi)∧true=true∧Q (Tv.tup [Sv.agg (ivL false (sg (bo (rf x (p+32)).fst (p+24)).fst.snd true)),Sv.agg (ivL false (sg (bo (rf x (p+32)).fst (p+24)).fst.fst false)),Sv.one (At.int .i64 0)])))):=by kernel_rfl
def WkK:(ks:List Ak)→AFun ks→AFun ks→Prop
  | [],g,g'=>(match g'.1 with | none=>True | some p=>p)→(match g.1 with | none=>True | some p=>p)∧g'.2=g.2
  | _ :: ks,g,g'=>∀ x,WkK ks (g x) (g' x)
theorem specK_weaken:∀ {ks:List Ak} {g g':AFun ks},WkK ks g g'→∀ l,(match (qF ks g' l).1 with | none=>True | some p=>p)→(match (qF ks g l).1 with | none=>True | some p=>p)∧(qF ks g' l).2=(qF ks g l).2
  | [],_,_,h,[]=>h
  | [],_,_,_,_ :: _=>fun hp=>hp.elim
  | _ :: _,_,_,_,[]=>fun hp=>hp.elim
  | k :: ks,g,g',h,s :: l=>by
    have e:∀ g:AFun (k :: ks),qF (k :: ks) g (s :: l)=(match k.dec s with | some x=>qF ks (g x) l | none=>ZL):=fun _=>rfl
    rw [e,e]
    cases k.dec s with
    | none=>exact fun hp=>hp.elim
    | some x=>exact specK_weaken (h x) l
theorem rSg_ok:SpecOk Tryz.prog 77 (wSg sgnV) :=
  zA (qO Yh YG) mixed Tryz.func77 rfl (by decide) (by decide) fun (v:Vx) _ (b:Bool) _ hp=>⟨fun _=>none,0,by
    show qH _ _ _ _ _ (fun t=>t=vF (sgnV v b)∨fgT t=vF (sgnV v b))
    refine (rSg_vc v b _).mpr (qB (fun h=>⟨hp,.inr ?_⟩) fun h=>.inl ?_)
    · rw [sgnV,if_pos h];rfl
    · rw [sgnV,if_neg (by rw [h];simp)];rfl⟩
def wTr(g:Dx→Int→(Vx×Vx)×Int):qU:=qF [.d,.i .i64] fun (x:Dx) (p:Int)=>(some (8≤p∧p≤2064),reT2 (g x p))
theorem sTb_ok(K:Int):SpecsOk Tryz.prog (sTb K (fun x p=>(zB x p).1=K) (fun x p=>(zB x p).2) Z1 sgnV) :=
  ⟨qQu_ok.weaken (specK_weaken fun (x:Dx) (p:Int) (hk:(zB x p).1=K)=>⟨trivial,by rw [←hk]⟩),rBoth_ok,rSg_ok,trivial⟩
theorem quar_four{x:Dx}(hx:0≤x.m)(p:Int):(zB x p).1=0∨(zB x p).1=1∨(zB x p).1=2∨(zB x p).1=3:=by
  by_cases h:(zB x p).2.2=0
  · obtain ⟨n,e,_⟩:=quar_num hx h
    omega
  · left
    rcases ZC x p with ⟨_,q⟩|⟨_,_,q⟩|⟨_,_,_,q⟩|⟨_,_,_,q⟩|⟨_,_,_,w,q⟩
    · rw [q]
    · rw [q]
    · rw [q]
    · rw [q]
    · rw [q.eq] at h;exact absurd rfl h
theorem right_eB2{v:Vx}(h:qT v=true):eB 4611686018427387904 v.lo∧eB 4611686018427387904 v.hi:=⟨(ZQ (QY h).1).eB (by omega),(ZQ (QY h).2.1).eB (by omega)⟩
theorem both_eB{x:Dx}(hx:0≤x.m){p:Int}(p0:8≤p)(p1:p≤2064)(h:(zB x (p+32)).2.2=0)(k:(Z1 (zB x (p+32)).2.1 (p+24)).2=0):(eB 4611686018427387904 (Z1 (zB x (p+32)).2.1 (p+24)).1.1.lo∧eB 4611686018427387904 (Z1 (zB x (p+32)).2.1 (p+24)).1.1.hi)∧eB 4611686018427387904 (Z1 (zB x (p+32)).2.1 (p+24)).1.2.lo∧eB 4611686018427387904 (Z1 (zB x (p+32)).2.1 (p+24)).1.2.hi:=by
  obtain ⟨n,_,Q⟩:=quar_num hx h
  rcases qnum_pair Q p0 p1 with ⟨e,_⟩|⟨S,C,e,_,K⟩
  · rw [e] at k;cases k
  · rw [e];exact ⟨right_eB2 K.sr,right_eB2 K.cr⟩
theorem tr0(b:Vx×Vx):ZD 0 b=b:=by rw [ZD,if_neg (by decide),if_neg (by decide),if_neg (by decide)]
theorem tr1(b:Vx×Vx):ZD 1 b=(b.2,ZF b.1):=by rw [ZD,if_pos rfl]
theorem tr2(b:Vx×Vx):ZD 2 b=(ZF b.1,ZF b.2):=by rw [ZD,if_neg (by decide),if_pos rfl]
theorem tr3(b:Vx×Vx):ZD 3 b=(ZF b.2,b.1):=by rw [ZD,if_neg (by decide),if_neg (by decide),if_pos rfl]
theorem rBo_ok0{x:Dx}(hx:0≤x.m){p:Int}(p0:8≤p)(p1:p≤2064)(hk:(zB x (p+32)).1=0):qH ⟨tysR,sTb 0 (fun x p=>(zB x p).1=0) (fun x p=>(zB x p).2) Z1 sgnV⟩ (fun _=>none) 0 Tryz.f45 [.agg (dyL false x),.one (.int .i64 p)] (fun t=>t=reT2 (zM x p)∨fgT t=reT2 (zM x p)):=by
  refine (rBo0_vc x p _ (fun x p=>(zB x p).2) Z1 sgnV _).mpr ⟨⟨by omega,by omega⟩,hk,qB (fun h=>.inr ?_) fun h=>⟨⟨by omega,by omega⟩,⟨by omega,by omega⟩,⟨by omega,by omega⟩,qB (fun k=>.inr ?_) fun k=>?_⟩⟩
  · rw [zM,if_neg (Qi.1 h)];rfl
  · rw [zM,if_pos (qQ.1 h),if_neg (Qi.1 k)];rfl
  · obtain ⟨e1,e2⟩:=both_eB hx p0 p1 (qQ.1 h) (qQ.1 k)
    refine ⟨⟨by omega,by omega⟩,⟨by omega,by omega⟩,e1,⟨by omega,by omega⟩,e2,rfl,.inl ?_⟩
    rw [zM,if_pos (qQ.1 h),if_pos (qQ.1 k),hk,tr0];rfl
theorem rBo_ok1{x:Dx}(hx:0≤x.m){p:Int}(p0:8≤p)(p1:p≤2064)(hk:(zB x (p+32)).1=1):qH ⟨tysR,sTb 1 (fun x p=>(zB x p).1=1) (fun x p=>(zB x p).2) Z1 sgnV⟩ (fun _=>none) 0 Tryz.f45 [.agg (dyL false x),.one (.int .i64 p)] (fun t=>t=reT2 (zM x p)∨fgT t=reT2 (zM x p)):=by
  refine (rBo1_vc x p _ (fun x p=>(zB x p).2) Z1 sgnV _).mpr ⟨⟨by omega,by omega⟩,hk,qB (fun h=>.inr ?_) fun h=>⟨⟨by omega,by omega⟩,⟨by omega,by omega⟩,⟨by omega,by omega⟩,qB (fun k=>.inr ?_) fun k=>?_⟩⟩
  · rw [zM,if_neg (Qi.1 h)];rfl
  · rw [zM,if_pos (qQ.1 h),if_neg (Qi.1 k)];rfl
  · obtain ⟨e1,e2⟩:=both_eB hx p0 p1 (qQ.1 h) (qQ.1 k)
    refine ⟨⟨by omega,by omega⟩,⟨by omega,by omega⟩,e2,⟨by omega,by omega⟩,e1,rfl,.inl ?_⟩
    rw [zM,if_pos (qQ.1 h),if_pos (qQ.1 k),hk,tr1];rfl
theorem rBo_ok2{x:Dx}(hx:0≤x.m){p:Int}(p0:8≤p)(p1:p≤2064)(hk:(zB x (p+32)).1=2):qH ⟨tysR,sTb 2 (fun x p=>(zB x p).1=2) (fun x p=>(zB x p).2) Z1 sgnV⟩ (fun _=>none) 0 Tryz.f45 [.agg (dyL false x),.one (.int .i64 p)] (fun t=>t=reT2 (zM x p)∨fgT t=reT2 (zM x p)):=by
  refine (rBo2_vc x p _ (fun x p=>(zB x p).2) Z1 sgnV _).mpr ⟨⟨by omega,by omega⟩,hk,qB (fun h=>.inr ?_) fun h=>⟨⟨by omega,by omega⟩,⟨by omega,by omega⟩,⟨by omega,by omega⟩,qB (fun k=>.inr ?_) fun k=>?_⟩⟩
  · rw [zM,if_neg (Qi.1 h)];rfl
  · rw [zM,if_pos (qQ.1 h),if_neg (Qi.1 k)];rfl
  · obtain ⟨e1,e2⟩:=both_eB hx p0 p1 (qQ.1 h) (qQ.1 k)
    refine ⟨⟨by omega,by omega⟩,⟨by omega,by omega⟩,e1,⟨by omega,by omega⟩,e2,rfl,.inl ?_⟩
    rw [zM,if_pos (qQ.1 h),if_pos (qQ.1 k),hk,tr2];rfl
theorem rBo_ok3{x:Dx}(hx:0≤x.m){p:Int}(p0:8≤p)(p1:p≤2064)(hk:(zB x (p+32)).1=3):qH ⟨tysR,sTb 3 (fun x p=>(zB x p).1=3) (fun x p=>(zB x p).2) Z1 sgnV⟩ (fun _=>none) 0 Tryz.f45 [.agg (dyL false x),.one (.int .i64 p)] (fun t=>t=reT2 (zM x p)∨fgT t=reT2 (zM x p)):=by
  refine (rBo3_vc x p _ (fun x p=>(zB x p).2) Z1 sgnV _).mpr ⟨⟨by omega,by omega⟩,hk,qB (fun h=>.inr ?_) fun h=>⟨⟨by omega,by omega⟩,⟨by omega,by omega⟩,⟨by omega,by omega⟩,qB (fun k=>.inr ?_) fun k=>?_⟩⟩
  · rw [zM,if_neg (Qi.1 h)];rfl
  · rw [zM,if_pos (qQ.1 h),if_neg (Qi.1 k)];rfl
  · obtain ⟨e1,e2⟩:=both_eB hx p0 p1 (qQ.1 h) (qQ.1 k)
    refine ⟨⟨by omega,by omega⟩,⟨by omega,by omega⟩,e2,⟨by omega,by omega⟩,e1,rfl,.inl ?_⟩
    rw [zM,if_pos (qQ.1 h),if_pos (qQ.1 k),hk,tr3];rfl
theorem specK_cons{k:Ak}{ks:List Ak}{g:AFun (k :: ks)}{s:Sv}{l:List Sv}:qF (k :: ks) g (s :: l)=(match k.dec s with | some x=>qF ks (g x) l | none=>ZL):=rfl
theorem specK_di{g:AFun [.d,.i .i64]}{s s':Sv}{x:Dx}{p:Int}(hd:Ak.dec .d s=some x)(hi:Ak.dec (.i .i64) s'=some p):qF [.d,.i .i64] g [s,s']=g x p:=by
  rw [specK_cons,hd]
  show qF [.i .i64] (g x) [s']=_
  rw [specK_cons,hi]
  rfl
theorem specK_di_inv{g:AFun [.d,.i .i64]}:∀ {l:List Sv},(match (qF [.d,.i .i64] g l).1 with | none=>True | some p=>p)→∃ s s' x p,l = [s,s']∧Ak.dec .d s=some x∧Ak.dec (.i .i64) s'=some p
  | [],hp=>hp.elim
  | s :: l,hp=>by
    rw [specK_cons] at hp
    cases h:Ak.dec .d s with
    | none=>rw [h] at hp;exact hp.elim
    | some x =>
      rw [h] at hp
      have hp:(match (qF [.i .i64] (g x) l).1 with | none=>True | some p=>p):=hp
      cases l with
      | nil=>exact hp.elim
      | cons s' l =>
        rw [specK_cons] at hp
        cases k:Ak.dec (.i .i64) s' with
        | none=>rw [k] at hp;exact hp.elim
        | some p =>
          rw [k] at hp
          have hp:(match (qF [] (g x p) l).1 with | none=>True | some p=>p):=hp
          cases l with
          | nil=>exact ⟨s,s',x,p,rfl,h,k⟩
          | cons=>exact hp.elim
theorem SpecOk.cases4{P:Program}{f:FuncId}{pr:Dx→Int→Prop}{g:Dx→Int→Tv}(G:AFun [.d,.i .i64])(Gk:Int→AFun [.d,.i .i64])(K:Dx→Int→Int)(hK:∀ {x:Dx},Dx.Wf x→∀ p,K x p=0∨K x p=1∨K x p=2∨K x p=3)
    (e:∀ (x:Dx) (p:Int),G x p=(some (pr x p),g x p)) (ek:∀ (k:Int) (x:Dx) (p:Int),Gk k x p=(some (pr x p∧K x p=k),g x p)) (h:∀ k:Int,k=0∨k=1∨k=2∨k=3→SpecOk P f (qF [.d,.i .i64] (Gk k))) :
    SpecOk P f (qF [.d,.i .i64] G):=by
  refine ⟨(h 0 (.inl rfl)).fn,fun C w vs l hC hX hT hvs hp=>?_⟩
  obtain ⟨s,s',x,p,rfl,hd,hi⟩:=specK_di_inv hp
  have e1:=(specK_di (g:=G) hd hi).trans (e x p)
  rw [e1] at hp ⊢
  have wx:Dx.Wf x:=by
    cases vs with
    | nil=>exact hvs.elim
    | cons v vs=>exact (dec_ok (k:=.d) hd hvs.1).1
  have e2:=(specK_di (g:=Gk (K x p)) hd hi).trans (ek (K x p) x p)
  have:=(h (K x p) (hK wx p)).run C w vs [s,s'] hC hX hT hvs (by rw [e2];exact ⟨hp,rfl⟩)
  rw [e2] at this
  exact this
theorem rBo_ok:SpecOk Tryz.prog 45 (wTr zM):=by
  have one:∀ K:Int,(∀ {x:Dx} (_:0≤x.m) {p:Int} (_:8≤p) (_:p≤2064) (_:(zB x (p+32)).1=K),qH ⟨tysR,sTb K (fun x p=>(zB x p).1=K) (fun x p=>(zB x p).2) Z1 sgnV⟩ (fun _=>none) 0 Tryz.f45 [.agg (dyL false x),.one (.int .i64 p)] (fun t=>t=reT2 (zM x p)∨fgT t=reT2 (zM x p)))→SpecOk Tryz.prog 45 (qF [.d,.i .i64] fun (x:Dx) (p:Int)=>(some ((8≤p∧p≤2064)∧(zB x (p+32)).1=K),reT2 (zM x p))):=fun K h =>
    zA (qO Yh (sTb_ok K)) mixed Tryz.func45 rfl (by decide) (by decide) fun (x:Dx) hw (p:Int) _ hp=>⟨fun _=>none,0,h (Dx.Wf.m0 hw) hp.1.1 hp.1.2 hp.2⟩
  exact SpecOk.cases4 (fun (x:Dx) (p:Int)=>(some (8≤p∧p≤2064),reT2 (zM x p))) (fun (k:Int) (x:Dx) (p:Int)=>(some ((8≤p∧p≤2064)∧(zB x (p+32)).1=k),reT2 (zM x p))) (fun x p=>(zB x (p+32)).1) (fun {x} hw p=>quar_four (Dx.Wf.m0 hw) (p+32)) (fun _ _=>rfl) (fun _ _ _=>rfl) fun k hk=>by
    rcases hk with rfl | rfl | rfl | rfl
    · exact one 0 rBo_ok0
    · exact one 1 rBo_ok1
    · exact one 2 rBo_ok2
    · exact one 3 rBo_ok3
theorem flt_fits{d:Dx}(fd:OneF d)(hb:d.Bd 1074 1024):d.fitsB=true:=fits_bd2 fd (hb.mono (by omega) (by omega))
theorem flt_top{d:Dx}(fd:OneF d)(hb:d.Bd 1074 1024):XG (qC d)<1024:=by
  have h:=hb.hi
  rw [Xm fd]
  show d.e+blen d.m-1<1024
  omega
theorem flt_inX{d:Dx}(fd:OneF d)(hb:d.Bd 1074 1024):inX d:=inX_of fd.p (flt_fits fd hb) (flt_top fd hb)
structure FltPair (d:Dx) (p:Int) (S C:Vx) (n:Int):Prop where
  k:(zB d (p+32)).1=n % 4
  qn:QNum d (p+32) (zB d (p+32)).2.1 n
  e:Z1 (zB d (p+32)).2.1 (p+24)=((S,C),0)
  q:PairQ d p n S C
  K:PairOk (zB d (p+32)).2.1 (p2 (-19-p)) S C
  s:d.rv=0∧n=0∧S=zeroIv∨d.rv≠0∧VM (p2 (-19-p)) (p2 (-8263)) (p2 5) S
  c:VM (p2 (-19-p)) (p2 (-3)) (p2 3) C
theorem pair_cv{v S C:Vx}{η:Rat}(K:PairOk v η S C):VM η (p2 (-3)) (p2 3) C:=by
  have e3:p2 (-3)=1/8:=by decide +kernel
  have e4:p2 3=8:=by decide +kernel
  have c0:=K.c0
  have c1:=K.c1
  exact .inl ⟨qL _,by rw [e3];exact c0,by rw [e4];exact c1,K.cn⟩
theorem flt_pair{d:Dx}(fd:OneF d)(hb:d.Bd 1074 1024){p:Int}(p0:8≤p)(p1:p≤2064)(h:(zB d (p+32)).2.2=0):∃ S C n,FltPair d p S C n:=by
  obtain ⟨n,kn,Q⟩:=quar_num fd.p h
  by_cases z:d.rv=0
  · have n0:n=0:=by
      rcases Q.near with ⟨_,b⟩|⟨w,w0,w1,f⟩
      · exact b
      · have hf:=Ya w0 (show w≤65000 by omega)
        have:=f (zW w).lo.rv ⟨Rat.le_refl,hf.le⟩
        rw [z,Rat.zero_mul] at this
        exact this.uniq near_zero0
    have e:(zB d (p+32)).2.1=zeroIv:=by
      have zm:(qC d).m=0:=Classical.byContradiction fun k=>by
        have:(qC d).rv=0:=by rw [Qs fd.p,z]
        have:=(Z9 (d:=qC d) zZ).2 this
        exact k (QC.1 this)
      rcases ZC d (p+32) with ⟨_,q⟩|⟨_,_,q⟩|⟨_,k,_⟩|⟨_,k,_⟩|⟨_,k,_⟩
      · rw [q]
      · rw [q]
      all_goals exact absurd zm k
    rcases qnum_pair Q p0 p1 with ⟨_,k⟩|⟨S,C,e',PQ,K⟩
    · exfalso
      rw [e] at k
      have:ZA (QT zeroIv) (p+24)=zeroIv:=by
        have o:qC (⟨false,[],0⟩:Dx)=⟨false,[],0⟩:=Xm ⟨false,0,0,by decide,rfl⟩
        have s:Zf ⟨false,[],0⟩ (p+24)=zeroIv:=by rw [Zf,if_pos (show Dx.zeroB ⟨false,[],0⟩=true from rfl)]
        show (⟨(Zf (qC ⟨false,[],0⟩) (p+24)).lo,(Zf (qC ⟨false,[],0⟩) (p+24)).hi⟩:Vx)=zeroIv
        rw [o,s]
      rw [this,trim_zero _ (by omega),zero_right] at k
      cases k
    · have z0:zeroIv.lo.rv=0:=Z2
      have z1:zeroIv.hi.rv=0:=Z2
      have sz:S=zeroIv:=K.z (by rw [e,z0]) (by rw [e,z1])
      exact ⟨S,C,n,kn,Q,e',PQ,K,.inl ⟨z,n0,sz⟩,pair_cv K⟩
  · obtain ⟨s1,s2⟩:=small_of Q.enc.self Q.lo Q.hi
    obtain ⟨S,C,e,v,K⟩:=quar_both fd.p fd hb (flt_inX fd hb) z p0 p1 h s1 s2 Q.r Q.q
    rcases qnum_pair Q p0 p1 with ⟨k,_⟩|⟨S',C',e',PQ,K'⟩
    · rw [k] at e;cases e
    · rw [e'] at e
      obtain ⟨rfl,rfl⟩:S'=S∧C'=C:=by cases e;exact ⟨rfl,rfl⟩
      exact ⟨S',C',n,kn,Q,e',PQ,K',.inr ⟨z,v⟩,pair_cv K⟩
theorem FltPair.half{d:Dx}{p n:Int}{S C:Vx}(h:FltPair d p S C n):Half (p2 (-19-p)) S (sinQ (rhS d.rv n))∧Half (p2 (-19-p)) C (cosQ (rhS d.rv n)):=by
  obtain ⟨R,K⟩:=h.q.k
  have c0:=K.c0
  have c1:=K.c1
  exact ⟨⟨K.sp,K.sf,K.sr,K.st,K.s32,h.q.s⟩,⟨K.cp,K.cf,K.cr,.inr (.inl K.cn),⟨by grind,by grind⟩,h.q.c⟩⟩
theorem bothTr_eq{d:Dx}{p n:Int}{S C:Vx}(h:FltPair d p S C n)(h0:(zB d (p+32)).2.2=0):zM d p=(ZD (n % 4) (S,C),0):=by
  rw [zM,if_pos h0,h.e,if_pos rfl,h.k]
structure HNum (x:Dx) (p:Int) (R:Vx) (n:Int):Prop where
  enc:Enc (rhS x.rv n) R.lo.rv R.hi.rv
  q:R.P
  v:VN (p2 (-p)) R
  r:qT R=true
  lo:-(9/10)≤R.lo.rv
  hi:R.hi.rv≤9/10
  near:x.rv=0∧n=0∨∃ w,64≤w∧w≤16384∧∀ c,InV (refH w) c→NearI n (x.rv*c⁻¹)
theorem hqu_num{x:Dx}(hx:0≤x.m){p:Int}(p0:8≤p)(h:(Z4 x p).2.2=0):∃ n:Int,(Z4 x p).1=n % 4∧HNum x p (Z4 x p).2.1 n:=by
  have z0:zeroIv.lo.rv=0:=Z2
  have z1:zeroIv.hi.rv=0:=Z2
  unfold Z4 at h ⊢
  by_cases c:YR x p≠0∨x.m=0
  · rw [if_pos c] at h ⊢
    have xm:x.m=0:=by
      rcases c with c | c
      · exact absurd h c
      · exact c
    have x0:x.rv=0:=Ye xm
    refine ⟨0,rfl,?_,⟨Int.le_refl _,Int.le_refl _⟩,.inl ⟨z0,z1⟩,zero_right,by show -(9/10)≤zeroIv.lo.rv;rw [z0];decide +kernel,by show zeroIv.hi.rv≤9/10;rw [z1];decide +kernel,.inl ⟨x0,rfl⟩⟩
    have e:rhS x.rv 0=fun _=>0:=funext fun i=>by
      unfold rhS;rw [x0]
      have:((0:Int):Rat)=0:=rfl
      rw [this];grind
    show Enc (rhS x.rv 0) zeroIv.lo.rv zeroIv.hi.rv
    rw [e,z0,z1];exact Enc.const 0
  · rw [if_neg c] at h ⊢
    rcases hquL_spec (x:=x) (p:=p) 9 (max (XG (qC x)) 0+p+64) (by omega) with e | ⟨w,w0,w1,k,e⟩
    · rw [e] at h;cases h
    · obtain ⟨sure,nb,et⟩:=tryH_parts k
      have hf:=refH_hf (w:=w) (by omega) (by omega)
      have w2:1≤w:=by omega
      have rp:(zY (refH w) x w).P:=⟨Y8,Y8⟩
      have vn:=YN rp nb
      obtain ⟨_,rr,_⟩:=narrow_facts2 rp nb
      obtain ⟨cc,dc,_,d1,d2⟩:=hf.common hf
      have n1:=sure_near hf hx w2 sure dc
      have r1:=rest_in hf hx w2 dc
      have m1:=hf.enc.meets piS_enc
      have m2:=hf.nar
      have m3:p2 (23-w)≤1/100:=by
        have:=Qz (show 23-w≤-7 by omega)
        have e:p2 (-7)=1/128:=by decide +kernel
        rw [e] at this;grind
      have m4:cc≤8/5:=by have:=dc.2;grind
      obtain ⟨b1,b2⟩:=near_bd2 d1 m4 n1 rfl
      obtain ⟨g1,g2⟩:=vn_wide vn p0 r1 b1 b2
      rw [e,et]
      exact ⟨nI (refH w) x w,rfl,rest_enc hf hx w2,rp,vn,rr,g1,g2,.inr ⟨w,w0,w1,fun c hc=>sure_near hf hx w2 sure hc⟩⟩
theorem qh_same{x:Dx}{p p':Int}{R R':Vx}{n n':Int}(h:QNum x p R n)(k:HNum x p' R' n'):n=n':=by
  rcases h.near with ⟨a,b⟩|⟨w,w0,w1,f⟩<;>rcases k.near with ⟨a',b'⟩|⟨w',w0',w1',f'⟩
  · rw [b,b']
  · have hf:=refH_hf (w:=w') (by omega) (by omega)
    have:=f' (refH w').lo.rv ⟨Rat.le_refl,hf.le⟩
    rw [a,Rat.zero_mul] at this
    rw [b];exact near_zero0.uniq this
  · have hf:=Ya w0 (show w≤65000 by omega)
    have:=f (zW w).lo.rv ⟨Rat.le_refl,hf.le⟩
    rw [a',Rat.zero_mul] at this
    rw [b'];exact this.uniq near_zero0
  · obtain ⟨c,hc,hc',_⟩:=(Ya w0 (show w≤65000 by omega)).common (refH_hf (w:=w') (by omega) (by omega))
    exact (f c hc).uniq (f' c hc')
structure DocP (x:Dx) (p n:Int) (U W:Vx):Prop where
  s:Enc (sinQ (rhS x.rv n)) U.lo.rv U.hi.rv
  c:Enc (cosQ (rhS x.rv n)) W.lo.rv W.hi.rv
  u:WOk U
  w:WOk W
  us:U.Sm 6291457
  ws:W.Sm 6291457
  ow:Off0 W
  ou:x.rv≠0→Off0 U
theorem hnum_pre{x:Dx}{p n:Int}{R:Vx}(h:HNum x p R n){q:Int}(q0:0≤q)(q1:q≤60000):preS R.lo q∧preS R.hi q:=by
  obtain ⟨s1,s2⟩:=small_of h.enc.self h.lo h.hi
  have f:=QZ h.r
  exact ⟨⟨f.1.mono (by omega),s1,q0,q1⟩,f.2.mono (by omega),s2,q0,q1⟩
theorem doc_pair{x:Dx}(hx:0≤x.m){p:Int}(p0:8≤p)(p1:p≤2048)(h:(Z4 x (p+24)).2.2=0):∃ n,(Z4 x (p+24)).1=n % 4∧HNum x (p+24) (Z4 x (p+24)).2.1 n∧DocP x p n (ZN (Z4 x (p+24)).2.1 (p+24)) (zO (Z4 x (p+24)).2.1 (p+24)):=by
  obtain ⟨n,kn,H⟩:=hqu_num hx (show 8≤p+24 by omega) h
  obtain ⟨s1,s2⟩:=small_of H.enc.self H.lo H.hi
  obtain ⟨q1,q2⟩:=hnum_pre H (q:=p+24) (by omega) (by omega)
  obtain ⟨PS,ES⟩:=sinesH_enc (p:=p+24) H.q s1 s2 (by omega) (by omega)
  obtain ⟨PC,EC⟩:=cosinesH_enc (p:=p+24) H.q s1 s2 (by omega) (by omega)
  obtain ⟨m1,m2⟩:=over_sm H.q q1 q2
  have es:=enc_sinQ H.enc H.lo H.hi ES
  have ec:=enc_cosQ H.enc H.lo H.hi EC
  have ow:=cosinesH_off (p:=p+24) H.q s1 s2 (by omega) (by omega)
  have ou:x.rv≠0→Off0 (ZN (Z4 x (p+24)).2.1 (p+24)):=fun z=>sinesH_off (p:=p+24) H.q s1 s2 (by omega) (by omega) (nar_off (hqu_off hx z (by omega) h))
  refine ⟨n,kn,H,es,ec,⟨PS,m1.mono (by omega),?_,es.self⟩,⟨PC,m2.mono (by omega),.inr ow,ec.self⟩,m1,m2,ow,ou⟩
  by_cases z:x.rv=0
  · left
    have xm:x.m=0:=Classical.byContradiction fun k=>by
      have:=(Z9 (d:=x) hx).2 z
      exact k (QC.1 this)
    have e:(Z4 x (p+24)).2.1=zeroIv:=by rw [Z4,if_pos (.inr xm)]
    rw [e]
    have:QG ⟨false,[],0⟩ (p+24)=zeroIv:=by rw [QG,if_pos (show Dx.zeroB ⟨false,[],0⟩=true from rfl)]
    show (⟨(QG ⟨false,[],0⟩ (p+24)).lo,(QG ⟨false,[],0⟩ (p+24)).hi⟩:Vx)=zeroIv
    rw [this]
  · exact .inr (ou z)
theorem enc17{d:Dx}(fd:OneF d)(hb:d.Bd 1074 1024){p:Int}(p0:8≤p)(p1:p≤2048)(h:(zB d (p+32)).2.2=0)(h':(Z4 d (p+24)).2.2=0) :
    (zM d p).2=0∧(z7 d p).2=0∧enclB (qV (zM d p).1.1 (p+8)) (z7 d p).1.1 p=true∧enclB (qV (zM d p).1.2 (p+8)) (z7 d p).1.2 p=true∧enclB (qV (Zx (zM d p).1.1 (zM d p).1.2 (p+24)) (p+8)) (Zx (z7 d p).1.1 (z7 d p).1.2 (p+32)) p=true:=by
  obtain ⟨S,C,n,F⟩:=flt_pair fd hb p0 (by omega) h
  obtain ⟨n',kn',H,D⟩:=doc_pair fd.p p0 p1 h'
  obtain rfl:n=n':=qh_same F.qn H
  obtain ⟨hs,hc⟩:=F.half
  have e1:=bothTr_eq F h
  have e2:z7 d p=(ZD (n % 4) (ZN (Z4 d (p+24)).2.1 (p+24),zO (Z4 d (p+24)).2.1 (p+24)),0):=by
    rw [z7,if_pos ⟨flt_fits fd hb,p0,p1⟩,if_pos h',kn']
  generalize ZN (Z4 d (p+24)).2.1 (p+24)=U at *
  generalize zO (Z4 d (p+24)).2.1 (p+24)=W at *
  obtain ⟨xs,xc⟩:=turn_half hs hc (n % 4)
  obtain ⟨us,uc⟩:=enc_turned D.u.p D.w.p D.s D.c (n % 4)
  have e0:=rlL (qL (-19-p))
  rw [e1,e2]
  refine ⟨rfl,rfl,half_encl xs us p0 e0 Rat.le_refl,half_encl xc uc p0 e0 Rat.le_refl,?_⟩
  show enclB (qV (Zx (ZD (n % 4) (S,C)).1 (ZD (n % 4) (S,C)).2 (p+24)) (p+8)) (Zx (ZD (n % 4) (U,W)).1 (ZD (n % 4) (U,W)).2 (p+32)) p=true
  rcases F.s with ⟨z,rfl,rfl⟩|⟨z,sv⟩
  · rw [show (0:Int) % 4=0 from rfl,tr0,tr0]
    have i:InV U 0:=by
      have e:sinQ (rhS d.rv 0)=Yt 0:=funext fun i=>by
        have:rhS d.rv 0 i=0:=by
          unfold rhS;rw [z]
          have:((0:Int):Rat)=0:=rfl
          rw [this];grind
        unfold sinQ;rw [this]
      have s:=D.s
      rw [e] at s
      exact ⟨s.meets enc_sin0,enc_sin0.meets s⟩
    exact tan_zero (s:=Yt 0) D.u.p D.w.p i D.c D.ow (by omega) (by omega)
  · have ou:=D.ou z
    obtain ⟨A,hA⟩:∃ A:Int,A = -8263:=⟨_,rfl⟩
    rw [←hA] at sv
    have cv:=F.c
    rcases (show n % 4=0∨n % 4=1∨n % 4=2∨n % 4=3 by omega) with k | k | k | k<;>rw [k]
    · rw [tr0,tr0]
      exact tan_encl (A:=A) (B:=5) (C:=-3) (D:=3) hs hc (divV_p _ _ _) sv cv D.u.p D.w.p D.s D.c D.ow e0 Rat.le_refl p0 (by omega) (by omega) (by omega) (by omega) (by omega)
    · rw [tr1,tr1]
      exact tan_encl (A:=-3) (B:=3) (C:=A) (D:=5) hc hs.turn (divV_p _ _ _) cv (sv.turn hs.p) D.w.p (turnV_P U) D.c (D.s.turn D.u.p) (ou.turn D.u.p) e0 Rat.le_refl p0 (by omega) (by omega) (by omega) (by omega) (by omega)
    · rw [tr2,tr2]
      exact tan_encl (A:=A) (B:=5) (C:=-3) (D:=3) hs.turn hc.turn (divV_p _ _ _) (sv.turn hs.p) (cv.turn hc.p) (turnV_P U) (turnV_P W) (D.s.turn D.u.p) (D.c.turn D.w.p) (D.ow.turn D.w.p) e0 Rat.le_refl p0 (by omega) (by omega) (by omega) (by omega) (by omega)
    · rw [tr3,tr3]
      exact tan_encl (A:=-3) (B:=3) (C:=A) (D:=5) hc.turn hs (divV_p _ _ _) (cv.turn hc.p) sv (turnV_P W) D.u.p (D.c.turn D.w.p) D.s ou e0 Rat.le_refl p0 (by omega) (by omega) (by omega) (by omega) (by omega)
def wIs17(is:Int→Bool):qU:=qF [.i .u8] fun (f:Int)=>(none,bT (is f))
def sBp17(ck:Dx→Int)(of:Dx→Int→(Vx×Vx)×Int)(tr:Vx→Int→Vx):List (FuncId×qU):=[(71,qF [.d] fun (d:Dx)=>(none,iT (ck d))),(45,wTr of),(47,qF [.v,.i .i64] fun (v:Vx) (p:Int)=>(some (v.Sm 34359738368∧0≤p∧p≤1099511627776),vT (tr v p)))]
theorem rBp_vc(x:Dx)(p:Int)(ck:Dx→Int)(of:Dx→Int→(Vx×Vx)×Int)(tr:Vx→Int→Vx)(Q:Tv→Prop):qH ⟨tysR,sBp17 ck of tr⟩ (fun _=>none) 0 Tryz.f37 [.agg (dyL false x),.one (.int .i64 p)] Q=(br (neI (ck x) 0) (Q (Tv.tup [Sv.agg [At.bool false,At.words true [],At.int .i64 0,At.bool false,At.words true [],At.int .i64 0],Sv.agg [At.bool false,At.words true [],At.int .i64 0,At.bool false,At.words true [],At.int .i64 0],Sv.one (At.int .i64 2)])) (br (ltI p 8) (Q (Tv.tup [Sv.agg [At.bool false,At.words true [],At.int .i64 0,At.bool false,At.words true [],At.int .i64 0],Sv.agg [At.bool false,At.words true [],At.int .i64 0,At.bool false,At.words true [],At.int .i64 0],Sv.one (At.int .i64 2)])) (br (ltI 2048 p) (Q (Tv.tup [Sv.agg [At.bool false,At.words true [],At.int .i64 0,At.bool false,At.words true [],At.int .i64 0],Sv.agg [At.bool false,At.words true [],At.int .i64 0,At.bool false,At.words true [],At.int .i64 0],Sv.one (At.int .i64 2)])) (((8:Int)≤p∧p≤2064)∧br (neI (of x p).snd 0) (Q (Tv.tup [Sv.agg [At.bool false,At.words true [],At.int .i64 0,At.bool false,At.words true [],At.int .i64 0],Sv.agg [At.bool false,At.words true [],At.int .i64 0,At.bool false,At.words true [],At.int .i64 0],Sv.one (At.int .i64 (of x p).snd)])) (inR (p+8)∧(Vx.Sm 34359738368 (of x p).fst.fst∧(0:Int)≤p+8∧p+8≤1099511627776)∧inR (p+8)∧(Vx.Sm 34359738368 (of x p).fst.snd∧(0:Int)≤p+8∧p+8≤1099511627776)∧true=true∧Q (Tv.tup [Sv.agg (ivL true (tr (of x p).fst.fst (p+8))),Sv.agg (ivL true (tr (of x p).fst.snd (p+8))),Sv.one (At.int .i64 0)])))))):=by kernel_rfl
theorem rIs_vc(f:Int)(Q:Tv→Prop):qH ⟨tysR,[]⟩ (fun _=>none) 0 Tryz.f14 [.one (.int .u8 f)] Q=(br (leI 13 f) (Q (bT (leI f 15))) (Q (bT false))):=by kernel_rfl
theorem hIs17_vc(f:Int)(Q:Tv→Prop):qH ⟨tysR,[]⟩ (fun _=>none) 0 Tryz.f15 [.one (.int .u8 f)] Q=(br (leI 13 f) (Q (bT (leI f 15))) (Q (bT false))):=by kernel_rfl
def sEp17(is:Int→Bool)(fr:Int→Dx×Int)(of:Dx→Int→(Vx×Vx)×Int)(tr:Vx→Int→Vx)(dv:Vx→Vx→Int→Vx):List (FuncId×qU):=[(14,wIs17 is),(44,qF [.i .u64] fun (x:Int)=>(some (zR x),rdT (fr x))),(46,qF [.v,.v,.i .i64] fun (v:Vx) (u:Vx) (p:Int)=>(some (v.Sm 67108864∧u.Sm 67108864∧u.lo.m≠0∧u.hi.m≠0∧0≤p∧p≤67108864),vF (dv v u p))),(45,wTr of),(47,qF [.v,.i .i64] fun (v:Vx) (p:Int)=>(some (v.Sm 34359738368∧0≤p∧p≤1099511627776),vT (tr v p)))]
theorem rEp_vc(f x p:Int)(is:Int→Bool)(fr:Int→Dx×Int)(of:Dx→Int→(Vx×Vx)×Int)(tr:Vx→Int→Vx)(dv:Vx→Vx→Int→Vx)(Q:Tv→Prop):qH ⟨tysR,sEp17 is fr of tr dv⟩ (fun _=>none) 0 Tryz.f10 [.one (.int .u8 f),.one (.int .u64 x),.one (.int .i64 p)] Q=(br (!is f) (Q (Tv.tup [Sv.agg [At.bool false,At.words true [],At.int .i64 0,At.bool false,At.words true [],At.int .i64 0],Sv.one (At.int .i64 2)])) (br (ltI p 8) (Q (Tv.tup [Sv.agg [At.bool false,At.words true [],At.int .i64 0,At.bool false,At.words true [],At.int .i64 0],Sv.one (At.int .i64 2)])) (br (ltI 2048 p) (Q (Tv.tup [Sv.agg [At.bool false,At.words true [],At.int .i64 0,At.bool false,At.words true [],At.int .i64 0],Sv.one (At.int .i64 2)])) (zR x∧br (neI (fr x).snd 0) (Q (Tv.tup [Sv.agg [At.bool false,At.words true [],At.int .i64 0,At.bool false,At.words true [],At.int .i64 0],Sv.one (At.int .i64 (fr x).snd)])) (((8:Int)≤p∧p≤2064)∧br (neI (of (fr x).fst p).snd 0) (Q (Tv.tup [Sv.agg [At.bool false,At.words true [],At.int .i64 0,At.bool false,At.words true [],At.int .i64 0],Sv.one (At.int .i64 (of (fr x).fst p).snd)])) (br (eqI f 14) (inR (p+8)∧(Vx.Sm 34359738368 (of (fr x).fst p).fst.snd∧(0:Int)≤p+8∧p+8≤1099511627776)∧Q (Tv.tup [Sv.agg (ivL true (tr (of (fr x).fst p).fst.snd (p+8))),Sv.one (At.int .i64 0)])) (br (eqI f 15) (inR (p+24)∧(Vx.Sm 67108864 (of (fr x).fst p).fst.fst∧Vx.Sm 67108864 (of (fr x).fst p).fst.snd∧Dx.m (of (fr x).fst p).fst.snd.lo≠0∧Dx.m (of (fr x).fst p).fst.snd.hi≠0∧(0:Int)≤p+24∧p+24≤67108864)∧inR (p+8)∧(Vx.Sm 34359738368 (dv (of (fr x).fst p).fst.fst (of (fr x).fst p).fst.snd (p+24))∧(0:Int)≤p+8∧p+8≤1099511627776)∧Q (Tv.tup [Sv.agg (ivL true (tr (dv (of (fr x).fst p).fst.fst (of (fr x).fst p).fst.snd (p+24)) (p+8))),Sv.one (At.int .i64 0)])) (inR (p+8)∧(Vx.Sm 34359738368 (of (fr x).fst p).fst.fst∧(0:Int)≤p+8∧p+8≤1099511627776)∧Q (Tv.tup [Sv.agg (ivL true (tr (of (fr x).fst p).fst.fst (p+8))),Sv.one (At.int .i64 0)]))))))))):=by kernel_rfl
def sBu17(fR:Dx→Bool)(hq:Dx→Int→Int×Vx×Int)(ov:Vx→Int→Vx×Vx)(po:Vx→Int→Prop):List (FuncId×qU):=[(58,qF [.d] fun (d:Dx)=>(none,bT (fR d))),(72,qF [.d,.i .i64] fun (x:Dx) (p:Int)=>(none,quT (hq x p))),(73,qF [.v,.i .i64] fun (v:Vx) (p:Int)=>(some (po v p),vvT (ov v p).1 (ov v p).2)),(35,gNeg)]
theorem hBu17_vc(x:Dx)(p:Int)(fR:Dx→Bool)(hq:Dx→Int→Int×Vx×Int)(ov:Vx→Int→Vx×Vx)(po:Vx→Int→Prop)(Q:Tv→Prop):qH ⟨tysR,sBu17 fR hq ov po⟩ (fun _=>none) 0 Tryz.f38 [.agg (dyL false x),.one (.int .i64 p)] Q=(br (!fR x) (Q (Tv.tup [Sv.agg [At.bool false,At.words true [],At.int .i64 0,At.bool false,At.words true [],At.int .i64 0],Sv.agg [At.bool false,At.words true [],At.int .i64 0,At.bool false,At.words true [],At.int .i64 0],Sv.one (At.int .i64 2)])) (br (ltI p 8) (Q (Tv.tup [Sv.agg [At.bool false,At.words true [],At.int .i64 0,At.bool false,At.words true [],At.int .i64 0],Sv.agg [At.bool false,At.words true [],At.int .i64 0,At.bool false,At.words true [],At.int .i64 0],Sv.one (At.int .i64 2)])) (br (ltI 2048 p) (Q (Tv.tup [Sv.agg [At.bool false,At.words true [],At.int .i64 0,At.bool false,At.words true [],At.int .i64 0],Sv.agg [At.bool false,At.words true [],At.int .i64 0,At.bool false,At.words true [],At.int .i64 0],Sv.one (At.int .i64 2)])) (inR (p+24)∧br (neI (hq x (p+24)).snd.snd 0) (Q (Tv.tup [Sv.agg [At.bool false,At.words true [],At.int .i64 0,At.bool false,At.words true [],At.int .i64 0],Sv.agg [At.bool false,At.words true [],At.int .i64 0,At.bool false,At.words true [],At.int .i64 0],Sv.one (At.int .i64 (hq x (p+24)).snd.snd)])) (inR (p+24)∧po (hq x (p+24)).snd.fst (p+24)∧br (eqI (hq x (p+24)).fst 1) ((eB 4611686018427387904 (ov (hq x (p+24)).snd.fst (p+24)).fst.lo∧eB 4611686018427387904 (ov (hq x (p+24)).snd.fst (p+24)).fst.hi)∧true=true∧Q (Tv.tup [Sv.agg (ivL false (ov (hq x (p+24)).snd.fst (p+24)).snd),Sv.agg (ivL true (ZF (ov (hq x (p+24)).snd.fst (p+24)).fst)),Sv.one (At.int .i64 0)])) (br (eqI (hq x (p+24)).fst 2) ((eB 4611686018427387904 (ov (hq x (p+24)).snd.fst (p+24)).fst.lo∧eB 4611686018427387904 (ov (hq x (p+24)).snd.fst (p+24)).fst.hi)∧(eB 4611686018427387904 (ov (hq x (p+24)).snd.fst (p+24)).snd.lo∧eB 4611686018427387904 (ov (hq x (p+24)).snd.fst (p+24)).snd.hi)∧true=true∧Q (Tv.tup [Sv.agg (ivL true (ZF (ov (hq x (p+24)).snd.fst (p+24)).fst)),Sv.agg (ivL true (ZF (ov (hq x (p+24)).snd.fst (p+24)).snd)),Sv.one (At.int .i64 0)])) (br (eqI (hq x (p+24)).fst 3) ((eB 4611686018427387904 (ov (hq x (p+24)).snd.fst (p+24)).snd.lo∧eB 4611686018427387904 (ov (hq x (p+24)).snd.fst (p+24)).snd.hi)∧true=true∧Q (Tv.tup [Sv.agg (ivL true (ZF (ov (hq x (p+24)).snd.fst (p+24)).snd)),Sv.agg (ivL false (ov (hq x (p+24)).snd.fst (p+24)).fst),Sv.one (At.int .i64 0)])) (true=true∧Q (Tv.tup [Sv.agg (ivL false (ov (hq x (p+24)).snd.fst (p+24)).fst),Sv.agg (ivL false (ov (hq x (p+24)).snd.fst (p+24)).snd),Sv.one (At.int .i64 0)]))))))))):=by kernel_rfl
def sEu17(is:Int→Bool)(fi:Int→Bool)(fr:Int→Dx×Int)(bo:Dx→Int→(Vx×Vx)×Int)(dv:Vx→Vx→Int→Vx):List (FuncId×qU):=[(15,wIs17 is),(48,qF [.i .u64] fun (x:Int)=>(some (zR x),bT (fi x))),(12,qF [.i .u64] fun (x:Int)=>(some (zR x),rdT (fr x))),(38,qF [.d,.i .i64] fun (x:Dx) (p:Int)=>(none,reT2 (bo x p))),(49,qF [.v,.v,.i .i64] fun (v:Vx) (u:Vx) (p:Int)=>(some (v.Sm 16777216∧u.Sm 16777216∧u.lo.m≠0∧u.hi.m≠0∧1≤p∧p≤16777216),vF (dv v u p)))]
theorem hEu17_vc(f x p:Int)(is:Int→Bool)(fi:Int→Bool)(fr:Int→Dx×Int)(bo:Dx→Int→(Vx×Vx)×Int)(dv:Vx→Vx→Int→Vx)(Q:Tv→Prop):qH ⟨tysR,sEu17 is fi fr bo dv⟩ (fun _=>none) 0 Tryz.f11 [.one (.int .u8 f),.one (.int .u64 x),.one (.int .i64 p)] Q=(br (!is f) (Q (Tv.tup [Sv.agg [At.bool false,At.words true [],At.int .i64 0,At.bool false,At.words true [],At.int .i64 0],Sv.one (At.int .i64 2)])) (br (ltI p 8) (Q (Tv.tup [Sv.agg [At.bool false,At.words true [],At.int .i64 0,At.bool false,At.words true [],At.int .i64 0],Sv.one (At.int .i64 2)])) (br (ltI 2048 p) (Q (Tv.tup [Sv.agg [At.bool false,At.words true [],At.int .i64 0,At.bool false,At.words true [],At.int .i64 0],Sv.one (At.int .i64 2)])) (zR x∧br (!fi x) (Q (Tv.tup [Sv.agg [At.bool false,At.words true [],At.int .i64 0,At.bool false,At.words true [],At.int .i64 0],Sv.one (At.int .i64 5)])) (zR x∧br (neI (bo (fr x).fst p).snd 0) (Q (Tv.tup [Sv.agg [At.bool false,At.words true [],At.int .i64 0,At.bool false,At.words true [],At.int .i64 0],Sv.one (At.int .i64 (bo (fr x).fst p).snd)])) (br (eqI f 13) (Q (Tv.tup [Sv.agg (ivL false (bo (fr x).fst p).fst.fst),Sv.one (At.int .i64 0)])) (br (eqI f 14) (Q (Tv.tup [Sv.agg (ivL false (bo (fr x).fst p).fst.snd),Sv.one (At.int .i64 0)])) (inR (p+32)∧(Vx.Sm 16777216 (bo (fr x).fst p).fst.fst∧Vx.Sm 16777216 (bo (fr x).fst p).fst.snd∧Dx.m (bo (fr x).fst p).fst.snd.lo≠0∧Dx.m (bo (fr x).fst p).fst.snd.hi≠0∧(1:Int)≤p+32∧p+32≤16777216)∧Q (Tv.tup [Sv.agg (ivL false (dv (bo (fr x).fst p).fst.fst (bo (fr x).fst p).fst.snd (p+32))),Sv.one (At.int .i64 0)]))))))))):=by kernel_rfl
def sFe(fR fZ:Dx→Bool)(fT:Dx→Int)(hb:Dx→Bool)(ix:Dx→Prop):List (FuncId×qU):=[(58,qF [.d] fun (d:Dx)=>(none,bT (fR d))),(39,qF [.d] fun (d:Dx)=>(none,bT (fZ d))),(31,qF [.d] fun (d:Dx)=>(some (eB 2305843009213693952 d),iT (fT d))),(59,qF [.d] fun (x:Dx)=>(some (ix x),bT (hb x)))]
theorem lFe_vc(x:Dx)(fR fZ:Dx→Bool)(fT:Dx→Int)(hb:Dx→Bool)(ix:Dx→Prop)(Q:Tv→Prop):qH ⟨tysR,sFe fR fZ fT hb ix⟩ (fun _=>none) 0 Tryz.f17 [.agg (dyL false x)] Q=(br (!fR x) (Q (bT false)) (br (fZ x) (Q (bT false)) (eB 2305843009213693952 x∧br (leI 1024 (fT x)) (Q (bT false)) (eB 2305843009213693952 x∧br (ltI (fT x) (-16384)) (Q (bT true)) (ix x∧Q (bT (hb x))))))):=by kernel_rfl
def sLk17(fS:Vx→Vx→Bool)(fR:Vx→Bool)(fL:Vx→Vx→Int→Bool):List (FuncId×qU):=[(53,xVVb fS),(56,qF [.v] fun (v:Vx)=>(none,bT (fR v))),(57,qF [.v,.v,.i .i64] fun (v:Vx) (u:Vx) (p:Int)=>(some (u.Sm 34359738368),bT (fL v u p)))]
theorem lLk17_vc(v:Vx)(why:Int)(u:Vx)(no p:Int)(free:Bool)(fS:Vx→Vx→Bool)(fR:Vx→Bool)(fL:Vx→Vx→Int→Bool)(Q:Tv→Prop):qH ⟨tysR,sLk17 fS fR fL⟩ (fun _=>none) 0 Tryz.f16 [.agg (ivL false v),.one (.int .i64 why),.agg (ivL false u),.one (.int .i64 no),.one (.int .i64 p),.one (.bool free)] Q=(br (neI why 0) (br (!fS v (Vx.mk (Dx.mk false [] 0) (Dx.mk false [] 0))) (Q (bT false)) (br free (br (eqI no 0) (br (eqI why 6) (Q (bT true)) (br (eqI why 3) (Q (bT true)) (br (eqI why 0) (br (neI no 0) (Q (bT true)) (br (!fR u) (Q (bT true)) (Vx.Sm 34359738368 u∧Q (bT (fL v u p))))) (Q (bT false))))) (br (eqI no 6) (br (eqI why 6) (Q (bT true)) (br (eqI why 3) (Q (bT true)) (br (eqI why 0) (br (neI no 0) (Q (bT true)) (br (!fR u) (Q (bT true)) (Vx.Sm 34359738368 u∧Q (bT (fL v u p))))) (Q (bT false))))) (br (neI no 0) (Q (bT (eqI why no))) (br (eqI why 0) (Vx.Sm 34359738368 u∧Q (bT (fL v u p))) (Q (bT false)))))) (br (neI no 0) (Q (bT (eqI why no))) (br (eqI why 0) (Vx.Sm 34359738368 u∧Q (bT (fL v u p))) (Q (bT false)))))) (br free (br (eqI no 0) (br (eqI why 6) (Q (bT true)) (br (eqI why 3) (Q (bT true)) (br (eqI why 0) (br (neI no 0) (Q (bT true)) (br (!fR u) (Q (bT true)) (Vx.Sm 34359738368 u∧Q (bT (fL v u p))))) (Q (bT false))))) (br (eqI no 6) (br (eqI why 6) (Q (bT true)) (br (eqI why 3) (Q (bT true)) (br (eqI why 0) (br (neI no 0) (Q (bT true)) (br (!fR u) (Q (bT true)) (Vx.Sm 34359738368 u∧Q (bT (fL v u p))))) (Q (bT false))))) (br (neI no 0) (Q (bT (eqI why no))) (br (eqI why 0) (Vx.Sm 34359738368 u∧Q (bT (fL v u p))) (Q (bT false)))))) (br (neI no 0) (Q (bT (eqI why no))) (br (eqI why 0) (Vx.Sm 34359738368 u∧Q (bT (fL v u p))) (Q (bT false)))))):=by kernel_rfl
def sEn17(fE hE:Int→Int→Int→Vx×Int)(i1 i2:Int→Bool)(fr:Int→Dx×Int)(fF:Dx→Bool)(lk:Vx→Int→Vx→Int→Int→Bool→Prop):List (FuncId×qU):=[(10,qF [.i .u8,.i .u64,.i .i64] fun (f x p:Int)=>(some (zR x),reT (fE f x p))),(11,qF [.i .u8,.i .u64,.i .i64] fun (f x p:Int)=>(some (zR x),reT (hE f x p))),(14,wIs17 i1),(15,wIs17 i2),(12,qF [.i .u64] fun (x:Int)=>(some (zR x),rdT (fr x))),(13,wTrue),(17,qF [.d] fun (x:Dx)=>(none,bT (fF x))),(16,qF [.v,.i .i64,.v,.i .i64,.i .i64,.b] fun (v:Vx) (why:Int) (u:Vx) (no p:Int) (free:Bool)=>(some (lk v why u no p free),bT true))]
theorem lEn17_vc(f x p:Int)(fE hE:Int→Int→Int→Vx×Int)(i1 i2:Int→Bool)(fr:Int→Dx×Int)(fF:Dx→Bool)(lk:Vx→Int→Vx→Int→Int→Bool→Prop)(Q:Tv→Prop):qH ⟨tysR,sEn17 fE hE i1 i2 fr fF lk⟩ (fun _=>none) 0 Tryz.f3 [.one (.int .u8 f),.one (.int .u64 x),.one (.int .i64 p)] Q=(zR x∧zR x∧zR x∧br (i1 f == i2 f) (br (eqI (hE f x p).snd 6) (lk (fE f x p).fst (fE f x p).snd (hE f x p).fst (hE f x p).snd p true∧true=true∧Q (bT true)) (br (eqI (hE f x p).snd 0) (br (neI (fE f x p).snd 0) (lk (fE f x p).fst (fE f x p).snd (hE f x p).fst (hE f x p).snd p (fF (fr x).fst)∧true=true∧Q (bT true)) (lk (fE f x p).fst (fE f x p).snd (hE f x p).fst (hE f x p).snd p false∧true=true∧Q (bT true))) (lk (fE f x p).fst (fE f x p).snd (hE f x p).fst (hE f x p).snd p false∧true=true∧Q (bT true)))) (true=true∧Q (bT false))):=by kernel_rfl
def Za(x:Dx)(p:Int):(Vx×Vx)×Int:=if chkD x=0∧8≤p∧p≤2048 then (if (zM x p).2=0 then ((qV (zM x p).1.1 (p+8),qV (zM x p).1.2 (p+8)),0) else ((zeroIv,zeroIv),(zM x p).2)) else ((zeroIv,zeroIv),2)
theorem bothTr_right{x:Dx}(hx:0≤x.m){p:Int}(p0:8≤p)(p1:p≤2064)(h:(zM x p).2=0):∃ s c,Half (p2 (-19-p)) (zM x p).1.1 s∧Half (p2 (-19-p)) (zM x p).1.2 c:=by
  unfold zM at h ⊢
  split at h
  · rename_i h1
    rw [if_pos h1]
    split at h
    · rename_i h2
      rw [if_pos h2]
      obtain ⟨n,_,Q⟩:=quar_num hx h1
      rcases qnum_pair Q p0 p1 with ⟨e,_⟩|⟨S,C,e,PQ,K⟩
      · rw [e] at h2;cases h2
      · rw [e]
        have c0:=K.c0
        have c1:=K.c1
        obtain ⟨a,b⟩:=turn_half (show Half (p2 (-19-p)) S (sinQ (rhS x.rv n)) from ⟨K.sp,K.sf,K.sr,K.st,K.s32,PQ.s⟩) (show Half (p2 (-19-p)) C (cosQ (rhS x.rv n)) from ⟨K.cp,K.cf,K.cr,.inr (.inl K.cn),⟨by grind,by grind⟩,PQ.c⟩) (zB x (p+32)).1
        exact ⟨_,_,a,b⟩
    · rename_i h2;exact absurd h h2
  · rename_i h1;exact absurd h h1
def rBp:qU:=qF [.d,.i .i64] fun (x:Dx) (p:Int)=>(none,reT2 (Za x p))
theorem sBp17_ok:SpecsOk Tryz.prog (sBp17 chkD zM qV):=⟨dChk_ok,rBo_ok,rTrim_ok,trivial⟩
theorem rBp_ok:SpecOk Tryz.prog 37 rBp :=
  zA (qO Yh sBp17_ok) mixed Tryz.func37 rfl (by decide) (by decide) fun (x:Dx) hw (p:Int) _ _=>⟨fun _=>none,0,by
    have hx:=Dx.Wf.m0 hw
    show qH _ _ _ _ _ (fun t=>t=reT2 (Za x p)∨fgT t=reT2 (Za x p))
    refine (rBp_vc x p chkD zM qV _).mpr (qB (fun h=>.inr ?_) fun h=>qB (fun h'=>.inr ?_) fun h'=>qB (fun h''=>.inr ?_) fun h''=>⟨⟨?_,?_⟩,qB (fun k=>.inr ?_) fun k=>?_⟩)
    · rw [Za,if_neg (fun c=>Qi.1 h c.1)];rfl
    · have:=qW.1 h'
      rw [Za,if_neg (by omega)];rfl
    · have:=qW.1 h''
      rw [Za,if_neg (by omega)];rfl
    · have:=qJ.1 h';omega
    · have:=qJ.1 h'';omega
    all_goals
      have c:chkD x=0∧8≤p∧p≤2048:=⟨qQ.1 h,by have:=qJ.1 h';omega,by have:=qJ.1 h'';omega⟩
    · rw [Za,if_pos c,if_neg (Qi.1 k)];rfl
    · have e:=qQ.1 k
      obtain ⟨s,t,hs,ht⟩:=bothTr_right hx c.2.1 (by omega) e
      refine ⟨⟨by omega,by omega⟩,⟨(QZ hs.r).mono (by omega),by omega,by omega⟩,⟨by omega,by omega⟩,⟨(QZ ht.r).mono (by omega),by omega,by omega⟩,rfl,.inr ?_⟩
      rw [Za,if_pos c,if_pos e];rfl⟩
def isTr(f:Int):Bool:=leI 13 f && leI f 15
theorem rIs_ok:SpecOk Tryz.prog 14 (wIs17 isTr) :=
  qG (qO (S:=[]) Yh trivial) mixed Tryz.func14 rfl (by decide) (by decide) fun (f:Int) _ _=>⟨fun _=>none,0,by
    show qH _ _ _ _ _ (fun t=>t=bT (isTr f))
    refine (rIs_vc f _).mpr (qB (fun h=>?_) fun h=>?_)<;>rw [isTr,h]<;>rfl⟩
theorem hIs17_ok:SpecOk Tryz.prog 15 (wIs17 isTr) :=
  qG (qO (S:=[]) Yh trivial) mixed Tryz.func15 rfl (by decide) (by decide) fun (f:Int) _ _=>⟨fun _=>none,0,by
    show qH _ _ _ _ _ (fun t=>t=bT (isTr f))
    refine (hIs17_vc f _).mpr (qB (fun h=>?_) fun h=>?_)<;>rw [isTr,h]<;>rfl⟩
def Zg(f x p:Int):Vx×Int :=
  if isTr f=true∧8≤p∧p≤2048 then
    if fexp x=2047 then (zeroIv,5) else
    if (zM (Xg x) p).2=0 then
      if f=14 then (qV (zM (Xg x) p).1.2 (p+8),0) else
      if f=15 then (qV (Zx (zM (Xg x) p).1.1 (zM (Xg x) p).1.2 (p+24)) (p+8),0) else
      (qV (zM (Xg x) p).1.1 (p+8),0)
    else (zeroIv,(zM (Xg x) p).2)
  else (zeroIv,2)
theorem flt_z{x:Int}(e:¬ fexp x=2047){p:Int}(p0:8≤p)(p1:p≤2048)(h:(zM (Xg x) p).2=0):Off0 (zM (Xg x) p).1.2∧(zM (Xg x) p).1.2.lo.rv≤(zM (Xg x) p).1.2.hi.rv:=by
  have h0:(zB (Xg x) (p+32)).2.2=0:=by
    unfold zM at h;split at h
    · assumption
    · exact h
  obtain ⟨S,C,n,F⟩:=flt_pair (fltD_f x) (fltD_bd e) p0 (by omega) h0
  obtain ⟨hs,hc⟩:=F.half
  rw [bothTr_eq F h0]
  obtain ⟨_,xc⟩:=turn_half hs hc (n % 4)
  refine ⟨?_,xc.e.self⟩
  have oc:=vm_off F.c
  rcases F.s with ⟨_,rfl,_⟩|⟨_,sv⟩
  · rw [show (0:Int) % 4=0 from rfl,tr0];exact oc
  · have os:=vm_off sv
    rcases (show n % 4=0∨n % 4=1∨n % 4=2∨n % 4=3 by omega) with k | k | k | k<;>rw [k]
    · rw [tr0];exact oc
    · rw [tr1];exact os.turn hs.p
    · rw [tr2];exact oc.turn hc.p
    · rw [tr3];exact os
def rEp:qU:=qF [.i .u8,.i .u64,.i .i64] fun (f x p:Int)=>(some (zR x),reT (Zg f x p))
theorem sEp17_ok:SpecsOk Tryz.prog (sEp17 isTr Yb zM qV Zx):=⟨rIs_ok,dFrom_ok,rDiv_ok,rBo_ok,rTrim_ok,trivial⟩
theorem rEp_ok:SpecOk Tryz.prog 10 rEp :=
  zA (qO Yh sEp17_ok) mixed Tryz.func10 rfl (by decide) (by decide) fun (f:Int) _ (x:Int) _ (p:Int) _ hp=>⟨fun _=>none,0,by
    have hw:zR x:=hp
    show qH _ _ _ _ _ (fun t=>t=reT (Zg f x p)∨fgT t=reT (Zg f x p))
    refine (rEp_vc f x p isTr Yb zM qV Zx _).mpr (qB (fun h=>.inr ?_) fun h=>qB (fun h'=>.inr ?_) fun h'=>qB (fun h''=>.inr ?_) fun h''=>⟨hw,qB (fun k=>.inr ?_) fun k=>?_⟩)
    · rw [Zg,if_neg (by rw [QE h];simp)];rfl
    · have:=qW.1 h'
      rw [Zg,if_neg (by omega)];rfl
    · have:=qW.1 h''
      rw [Zg,if_neg (by omega)];rfl
    · have c:isTr f=true∧8≤p∧p≤2048:=⟨q9 h,by have:=qJ.1 h';omega,by have:=qJ.1 h'';omega⟩
      have k:=Qi.1 k
      have e:fexp x=2047:=Classical.byContradiction fun c=>k (by rw [Yb,if_neg c])
      rw [Zg,if_pos c,if_pos e,Yb,if_pos e];rfl
    have c:isTr f=true∧8≤p∧p≤2048:=⟨q9 h,by have:=qJ.1 h';omega,by have:=qJ.1 h'';omega⟩
    have k:=qQ.1 k
    have e:¬ fexp x=2047:=fun c=>by rw [Yb,if_pos c] at k;cases k
    have ef:Yb x=(Xg x,0):=by rw [Yb,if_neg e]
    rw [ef]
    refine ⟨⟨by omega,by omega⟩,qB (fun z=>.inr ?_) fun z=>?_⟩
    · rw [Zg,if_pos c,if_neg e,if_neg (Qi.1 z)];rfl
    have z:=qQ.1 z
    obtain ⟨s,t,hs,ht⟩:=bothTr_right (fltD_p x) c.2.1 (by omega) z
    obtain ⟨oz,lz⟩:=flt_z e c.2.1 c.2.2 z
    have ss:=QZ hs.r
    have st:=QZ ht.r
    have zm:(zM (Xg x) p).1.2.lo.m≠0∧(zM (Xg x) p).1.2.hi.m≠0:=by
      rcases oz with o | o
      · exact ⟨rv_ne (by grind),rv_ne (by grind)⟩
      · exact ⟨rv_ne (by grind),rv_ne (by grind)⟩
    have sd:=divV_sm (p:=p+24) hs.p ht.p ss st (by omega) (by omega)
    refine qB (fun f1=>⟨⟨by omega,by omega⟩,⟨st.mono (by omega),by omega,by omega⟩,.inr ?_⟩) fun f1=>qB (fun f2=>⟨⟨by omega,by omega⟩,⟨ss.mono (by omega),st.mono (by omega),zm.1,zm.2,by omega,by omega⟩,⟨by omega,by omega⟩,⟨sd.mono (by omega),by omega,by omega⟩,.inr ?_⟩) fun f2=>⟨⟨by omega,by omega⟩,⟨ss.mono (by omega),by omega,by omega⟩,.inr ?_⟩
    · rw [Zg,if_pos c,if_neg e,if_pos z,if_pos (zX.1 f1)];rfl
    · rw [Zg,if_pos c,if_neg e,if_pos z,if_neg (qR.1 f1),if_pos (zX.1 f2)];rfl
    · rw [Zg,if_pos c,if_neg e,if_pos z,if_neg (qR.1 f1),if_neg (qR.1 f2)];rfl⟩
def sLv17(fE:Int→Int→Int→Vx×Int)(fI:Int→Dx)(fH:Vx→Dx→Bool)(fS:Vx→Vx→Bool)(fN:Vx→Int→Bool)(fO:Dx→Dx→Int)(is:Int→Bool):List (FuncId×qU):=[(10,qF [.i .u8,.i .u64,.i .i64] fun (f x p:Int)=>(some (zR x),reT (fE f x p))),(22,qF [.i .i64] fun (n:Int)=>(some (inR n),dT (fI n))),(54,qF [.v,.d] fun (v:Vx) (d:Dx)=>(none,bT (fH v d))),(53,xVVb fS),(55,xVIb fN),(29,xDDi fO),(14,wIs17 is)]
theorem lLv17_vc(fE:Int→Int→Int→Vx×Int)(fI:Int→Dx)(fH:Vx→Dx→Bool)(fS:Vx→Vx→Bool)(fN:Vx→Int→Bool)(fO:Dx→Dx→Int)(is:Int→Bool)(Q:Tv→Prop):qH ⟨tysR,sLv17 fE fI fH fS fN fO is⟩ (fun _=>none) 0 Tryz.f13 [] Q=(zR 0∧zR 0∧zR 4607182418800017408∧zR 9218868437227405312∧br (eqI (fE 13 0 64).snd 0) (br (fS (fE 13 0 64).fst (Vx.mk (Dx.mk false [] 0) (Dx.mk false [] 0))) (br (eqI (fE 14 0 64).snd 0) (inR 1∧br (fH (fE 14 0 64).fst (fI 1)) (br (eqI (fE 15 4607182418800017408 64).snd 0) (inR 1∧(Dx.Sm 34359738368 (fE 15 4607182418800017408 64).fst.lo∧Dx.Sm 34359738368 (fI 1))∧br (ltI 0 (fO (fE 15 4607182418800017408 64).fst.lo (fI 1))) (br (fN (fE 15 4607182418800017408 64).fst 64) (br (eqI (fE 15 9218868437227405312 64).snd 5) (true=true∧Q (bT (is 15))) (true=true∧Q (bT false))) (true=true∧Q (bT false))) (true=true∧Q (bT false))) (true=true∧Q (bT false))) (true=true∧Q (bT false))) (true=true∧Q (bT false))) (true=true∧Q (bT false))) (true=true∧Q (bT false))):=by kernel_rfl
def hBu17:qU:=qF [.d,.i .i64] fun (x:Dx) (p:Int)=>(none,reT2 (z7 x p))
theorem sBu17_ok:SpecsOk Tryz.prog (sBu17 Dx.fitsB Z4 (fun v p=>(ZN v p,zO v p)) (fun v p=>preS v.lo p∧preS v.hi p)):=⟨fRight_ok,hQu_ok,hOver_ok,gNeg_ok,trivial⟩
theorem hBu17_ok:SpecOk Tryz.prog 38 hBu17 :=
  zA (qO Yh sBu17_ok) mixed Tryz.func38 rfl (by decide) (by decide) fun (x:Dx) hw (p:Int) _ _=>⟨fun _=>none,0,by
    have hx:=Dx.Wf.m0 hw
    show qH _ _ _ _ _ (fun t=>t=reT2 (z7 x p)∨fgT t=reT2 (z7 x p))
    refine (hBu17_vc x p Dx.fitsB Z4 (fun v p=>(ZN v p,zO v p)) (fun v p=>preS v.lo p∧preS v.hi p) _).mpr (qB (fun h=>.inr ?_) fun h=>qB (fun h'=>.inr ?_) fun h'=>qB (fun h''=>.inr ?_) fun h''=>⟨?_,qB (fun k=>.inr ?_) fun k=>?_⟩)
    · rw [z7,if_neg (fun c=>by rw [QE h] at c;exact absurd c.1 (by simp))];rfl
    · have:=qW.1 h'
      rw [z7,if_neg (by omega)];rfl
    · have:=qW.1 h''
      rw [z7,if_neg (by omega)];rfl
    all_goals
      have c:x.fitsB=true∧8≤p∧p≤2048:=⟨q9 h,by have:=qJ.1 h';omega,by have:=qJ.1 h'';omega⟩
    · exact ⟨by omega,by omega⟩
    · rw [z7,if_pos c,if_neg (Qi.1 k)];rfl
    have k:=qQ.1 k
    obtain ⟨n,kn,H,D⟩:=doc_pair hx c.2.1 c.2.2 k
    have pre:=hnum_pre H (q:=p+24) (by omega) (by omega)
    have e1:eB 4611686018427387904 (ZN (Z4 x (p+24)).2.1 (p+24)).lo∧eB 4611686018427387904 (ZN (Z4 x (p+24)).2.1 (p+24)).hi:=⟨D.us.1.eB (by omega),D.us.2.eB (by omega)⟩
    have e2:eB 4611686018427387904 (zO (Z4 x (p+24)).2.1 (p+24)).lo∧eB 4611686018427387904 (zO (Z4 x (p+24)).2.1 (p+24)).hi:=⟨D.ws.1.eB (by omega),D.ws.2.eB (by omega)⟩
    have eq:z7 x p=(ZD (Z4 x (p+24)).1 (ZN (Z4 x (p+24)).2.1 (p+24),zO (Z4 x (p+24)).2.1 (p+24)),0):=by rw [z7,if_pos c,if_pos k]
    rw [eq]
    refine ⟨⟨by omega,by omega⟩,pre,qB (fun z=>⟨e1,rfl,.inr ?_⟩) fun z1=>qB (fun z=>⟨e1,e2,rfl,.inr ?_⟩) fun z2=>qB (fun z=>⟨e2,rfl,.inr ?_⟩) fun z3=>⟨rfl,.inl ?_⟩⟩
    · rw [ZD,if_pos (zX.1 z)];rfl
    · rw [ZD,if_neg (qR.1 z1),if_pos (zX.1 z)];rfl
    · rw [ZD,if_neg (qR.1 z1),if_neg (qR.1 z2),if_pos (zX.1 z)];rfl
    · rw [ZD,if_neg (qR.1 z1),if_neg (qR.1 z2),if_neg (qR.1 z3)];rfl⟩
theorem bothHr_ok{x:Dx}(hx:0≤x.m){p:Int}(p0:8≤p)(p1:p≤2048):WOk (z7 x p).1.1∧WOk (z7 x p).1.2:=by
  have z:WOk zeroIv:=⟨zero_P,zero_sm,.inl rfl,Rat.le_refl⟩
  unfold z7
  split
  · split
    · rename_i c h
      obtain ⟨n,kn,H,D⟩:=doc_pair hx p0 p1 h
      have tu:=WOk.turn D.u.p D.us D.u.o D.u.l
      have tw:=WOk.turn D.w.p D.ws D.w.o D.w.l
      show WOk (ZD _ _).1∧WOk (ZD _ _).2
      unfold ZD
      split
      · exact ⟨D.w,tu⟩
      split
      · exact ⟨tu,tw⟩
      split
      · exact ⟨tw,D.u⟩
      · exact ⟨D.u,D.w⟩
    · exact ⟨z,z⟩
  · exact ⟨z,z⟩
theorem bothHr_off{d:Dx}(fd:OneF d){p:Int}(p0:8≤p)(p1:p≤2048)(h:(z7 d p).2=0):Off0 (z7 d p).1.2:=by
  unfold z7 at h ⊢
  split at h
  · rename_i c
    rw [if_pos c]
    split at h
    · rename_i k
      rw [if_pos k]
      obtain ⟨n,kn,H,D⟩:=doc_pair fd.p p0 p1 k
      rw [kn]
      show Off0 (ZD (n % 4) _).2
      by_cases z:d.rv=0
      · have n0:n=0:=by
          rcases H.near with ⟨_,b⟩|⟨w,w0,w1,f⟩
          · exact b
          · have hf:=refH_hf (w:=w) (by omega) (by omega)
            have:=f (refH w).lo.rv ⟨Rat.le_refl,hf.le⟩
            rw [z,Rat.zero_mul] at this
            exact this.uniq near_zero0
        rw [n0,show (0:Int) % 4=0 from rfl,tr0];exact D.ow
      · have ou:=D.ou z
        rcases (show n % 4=0∨n % 4=1∨n % 4=2∨n % 4=3 by omega) with e | e | e | e<;>rw [e]
        · rw [tr0];exact D.ow
        · rw [tr1];exact ou.turn D.u.p
        · rw [tr2];exact D.ow.turn D.w.p
        · rw [tr3];exact ou
    · rename_i k;exact absurd h k
  · cases h
def Xz(f x p:Int):Vx×Int :=
  if isTr f=true∧8≤p∧p≤2048 then
    if fexp x=2047 then (zeroIv,5) else
    if (z7 (Xg x) p).2=0 then
      if f=13 then ((z7 (Xg x) p).1.1,0) else
      if f=14 then ((z7 (Xg x) p).1.2,0) else
      (Zx (z7 (Xg x) p).1.1 (z7 (Xg x) p).1.2 (p+32),0)
    else (zeroIv,(z7 (Xg x) p).2)
  else (zeroIv,2)
def hEu17:qU:=qF [.i .u8,.i .u64,.i .i64] fun (f x p:Int)=>(some (zR x),reT (Xz f x p))
theorem sEu17_ok:SpecsOk Tryz.prog (sEu17 isTr finB Yb z7 Zx):=⟨hIs17_ok,oFin_ok,fFrom_ok,hBu17_ok,gDiv_ok,trivial⟩
theorem hEu17_ok:SpecOk Tryz.prog 11 hEu17 :=
  zA (qO Yh sEu17_ok) mixed Tryz.func11 rfl (by decide) (by decide) fun (f:Int) _ (x:Int) _ (p:Int) _ hp=>⟨fun _=>none,0,by
    have hw:zR x:=hp
    show qH _ _ _ _ _ (fun t=>t=reT (Xz f x p)∨fgT t=reT (Xz f x p))
    refine (hEu17_vc f x p isTr finB Yb z7 Zx _).mpr (qB (fun h=>.inr ?_) fun h=>qB (fun h'=>.inr ?_) fun h'=>qB (fun h''=>.inr ?_) fun h''=>⟨hw,qB (fun k=>.inr ?_) fun k=>?_⟩)
    · rw [Xz,if_neg (by rw [QE h];simp)];rfl
    · have:=qW.1 h'
      rw [Xz,if_neg (by omega)];rfl
    · have:=qW.1 h''
      rw [Xz,if_neg (by omega)];rfl
    · have c:isTr f=true∧8≤p∧p≤2048:=⟨q9 h,by have:=qJ.1 h';omega,by have:=qJ.1 h'';omega⟩
      have k:finB x=false:=QE k
      unfold finB at k
      rw [Xz,if_pos c,if_pos (zX.1 (q9 k))];rfl
    have c:isTr f=true∧8≤p∧p≤2048:=⟨q9 h,by have:=qJ.1 h';omega,by have:=qJ.1 h'';omega⟩
    have k:finB x=true:=q9 k
    unfold finB at k
    have e:¬ fexp x=2047:=qR.1 (QE k)
    have ef:Yb x=(Xg x,0):=by rw [Yb,if_neg e]
    rw [ef]
    obtain ⟨a,b⟩:=bothHr_ok (fltD_p x) c.2.1 c.2.2
    refine ⟨hw,qB (fun z=>.inr ?_) fun z=>qB (fun f1=>.inl ?_) fun f1=>qB (fun f2=>.inl ?_) fun f2=>?_⟩
    · rw [Xz,if_pos c,if_neg e,if_neg (Qi.1 z)];rfl
    all_goals have z:=qQ.1 z
    · rw [Xz,if_pos c,if_neg e,if_pos z,if_pos (zX.1 f1)];rfl
    · rw [Xz,if_pos c,if_neg e,if_pos z,if_neg (qR.1 f1),if_pos (zX.1 f2)];rfl
    · have m:=off_m b (bothHr_off (fltD_f x) c.2.1 c.2.2 z)
      refine ⟨⟨by omega,by omega⟩,⟨a.s,b.s,m.1,m.2,by omega,by omega⟩,.inl ?_⟩
      rw [Xz,if_pos c,if_neg e,if_pos z,if_neg (qR.1 f1),if_neg (qR.1 f2)];rfl⟩
def topX(x:Dx):Int:=x.e+blen x.m-1
def freeB(x:Dx):Bool:=x.fitsB && (!x.zeroB && (!leI 1024 (topX x) && (ltI (topX x) (-16384) || hardB x)))
theorem inX_top{x:Dx}(hx:0≤x.m)(hf:x.fitsB=true)(ht:topX x<1024):inX x:=by
  obtain ⟨a1,a2⟩:=QX hx
  have l:=amt_lt (m:=x.m) (e:=x.e)
  have le:x.e+(blen x.m:Int)≤1024:=by unfold topX at ht;omega
  have l2:(x.m:Rat)*p2 x.e<p2 (1024:Nat):=by
    have:=Qz le
    have e:p2 ((1024:Nat):Int)=p2 1024:=rfl
    rw [e];grind
  have n0:0≤(x.m:Rat)*p2 x.e:=rmN (by exact_mod_cast hx) (rlL (qL _))
  refine ⟨fits_bd hf,?_,?_⟩
  · rcases (show 0≤x.rv∨x.rv≤0 by grind) with c | c
    · rw [a1 c];exact l2
    · grind
  · rcases (show 0≤x.rv∨x.rv≤0 by grind) with c | c
    · grind
    · have:=a2 c;grind
def lFe:qU:=qF [.d] fun (x:Dx)=>(none,bT (freeB x))
theorem sFe_ok:SpecsOk Tryz.prog (sFe Dx.fitsB Dx.zeroB topX hardB inX):=⟨fRight_ok,fZero_ok,fTop_ok,hHard_ok,trivial⟩
theorem lFe_ok:SpecOk Tryz.prog 17 lFe :=
  qG (qO Yh sFe_ok) mixed Tryz.func17 rfl (by decide) (by decide) fun (x:Dx) hw _=>⟨fun _=>none,0,by
    have hx:=Dx.Wf.m0 hw
    show qH _ _ _ _ _ (fun t=>t=bT (freeB x))
    refine (lFe_vc x Dx.fitsB Dx.zeroB topX hardB inX _).mpr (qB (fun h=>?_) fun h=>qB (fun k=>?_) fun k=>⟨?_,qB (fun t=>?_) fun t=>⟨?_,qB (fun u=>?_) fun u=>⟨?_,?_⟩⟩⟩)
    · rw [freeB,QE h];rfl
    · rw [freeB,q9 h,k];rfl
    · exact (ZQ (q9 h)).eB (by omega)
    · rw [freeB,q9 h,k,t];rfl
    · exact (ZQ (q9 h)).eB (by omega)
    · rw [freeB,q9 h,k,t,u];rfl
    · exact inX_top hx (q9 h) (by have:=Qn.1 t;omega)
    · rw [freeB,q9 h,k,t,u];rfl⟩
inductive LikeOk (v:Vx) (why:Int) (u:Vx) (no p:Int) (free:Bool):Prop where
  | many (hs:sameV v zeroIv=true) (hf:free=true) (hn:no=0∨no=6) (hw:why=6∨why=3)
  | hard (hf:free=true) (hn:no=6) (hw:why=0)
  | both (hn:no=0) (hw:why=0) (su:u.Sm 34359738368) (e:enclB v u p=true)
  | none (hs:sameV v zeroIv=true) (hn:no≠0) (hf:free=true→no≠6) (hw:why=no)
def lLk17:qU:=qF [.v,.i .i64,.v,.i .i64,.i .i64,.b] fun (v:Vx) (why:Int) (u:Vx) (no p:Int) (free:Bool)=>(some (LikeOk v why u no p free),bT true)
theorem sLk17_ok:SpecsOk Tryz.prog (sLk17 sameV qT enclB):=⟨gSame_ok,gRight_ok,hEncl_ok,trivial⟩
theorem lLk17_ok:SpecOk Tryz.prog 16 lLk17 :=
  qG (qO Yh sLk17_ok) mixed Tryz.func16 rfl (by decide) (by decide) fun (v:Vx) _ (why:Int) _ (u:Vx) _ (no:Int) _ (p:Int) _ (free:Bool) _ hp=>⟨fun _=>none,0,by
    have hp:LikeOk v why u no p free:=hp
    show qH _ _ _ _ _ (fun t=>t=bT true)
    refine (lLk17_vc v why u no p free sameV qT enclB _).mpr ?_
    have z:(⟨⟨false,[],0⟩,⟨false,[],0⟩⟩:Vx)=zeroIv:=rfl
    rw [z]
    cases hp with
    | many hs hf hn hw =>
      subst hf
      rw [hs]
      rcases hn with rfl | rfl<;>rcases hw with rfl | rfl<;>exact rfl
    | hard hf hn hw=>subst hf;subst hn;subst hw;exact rfl
    | both hn hw su e =>
      subst hn;subst hw
      rw [e]
      cases free with
      | true =>
        show br (!qT u) (bT true=bT true) (u.Sm 34359738368∧bT true=bT true)
        exact qB (fun _=>rfl) fun _=>⟨su,rfl⟩
      | false=>exact ⟨su,rfl⟩
    | none hs hn hf hw =>
      subst hw
      rw [hs,show neI why 0=true from Qi.2 hn,show eqI why 0=false from qR.2 hn,show eqI why why=true from zX.2 rfl]
      cases free with
      | true=>rw [show eqI why 6=false from qR.2 (hf rfl)];exact rfl
      | false=>exact rfl⟩
theorem flt_zero:Xg 0=⟨false,[],0⟩:=by rw [Xg,mkD_K];kernel_rfl
theorem flt_one:Xg 4607182418800017408=⟨false,[1],0⟩:=by rw [Xg,mkD_K];kernel_rfl
theorem zero_f2:OneF ⟨false,[],0⟩:=⟨false,0,0,by decide,rfl⟩
theorem quar_zero{p:Int}(p0:8≤p)(p1:p≤3968):(zB ⟨false,[],0⟩ p).2.2=0:=by
  have c:condQ ⟨false,[],0⟩ p:=⟨by rw [fits_K];decide +kernel,p0,p1⟩
  have o:qC (⟨false,[],0⟩:Dx)=⟨false,[],0⟩:=Xm zero_f2
  rcases ZC ⟨false,[],0⟩ p with ⟨k,_⟩|⟨_,_,q⟩|⟨_,k,_⟩|⟨_,k,_⟩|⟨_,k,_⟩
  · exact absurd c k
  · rw [q]
  all_goals (rw [o] at k;exact absurd rfl k)
theorem encTr_0{x p:Int}(e:¬ fexp x=2047)(p0:8≤p)(p1:p≤2048){S C:Vx}{n:Int}(F:FltPair (Xg x) p S C n)(h0:(zB (Xg x) (p+32)).2.2=0) :
    Zg 13 x p=(qV (ZD (n % 4) (S,C)).1 (p+8),0)∧Zg 14 x p=(qV (ZD (n % 4) (S,C)).2 (p+8),0)∧Zg 15 x p=(qV (Zx (ZD (n % 4) (S,C)).1 (ZD (n % 4) (S,C)).2 (p+24)) (p+8),0):=by
  have b:=bothTr_eq F h0
  refine ⟨?_,?_,?_⟩
  · rw [Zg,if_pos ⟨rfl,p0,p1⟩,if_neg e,b,if_pos rfl,if_neg (by decide),if_neg (by decide)]
  · rw [Zg,if_pos ⟨rfl,p0,p1⟩,if_neg e,b,if_pos rfl,if_pos rfl]
  · rw [Zg,if_pos ⟨rfl,p0,p1⟩,if_neg e,b,if_pos rfl,if_neg (by decide),if_pos rfl]
theorem lv_zero:Zg 13 0 64=(zeroIv,0)∧(Zg 14 0 64).2=0∧hasV (Zg 14 0 64).1 (mkS 1 0)=true:=by
  have e:¬ fexp 0=2047:=by decide
  have h0:(zB (Xg 0) (64+32)).2.2=0:=by rw [flt_zero];exact quar_zero (by decide) (by decide)
  obtain ⟨S,C,n,F⟩:=flt_pair (fltD_f 0) (fltD_bd e) (p:=64) (by decide) (by decide) h0
  obtain ⟨e3,e4,_⟩:=encTr_0 e (p:=64) (by decide) (by decide) F h0
  have z:(Xg 0).rv=0:=by rw [flt_zero];exact Z2
  rcases F.s with ⟨_,rfl,rfl⟩|⟨k,_⟩
  rotate_left
  · exact absurd z k
  obtain ⟨_,hc⟩:=F.half
  have er:cosQ (rhS (Xg 0).rv 0)=YO 0:=funext fun i=>by
    have:rhS (Xg 0).rv 0 i=0:=by
      unfold rhS;rw [z]
      have:((0:Int):Rat)=0:=rfl
      rw [this];grind
    unfold cosQ;rw [this]
  have en:=hc.e
  rw [er] at en
  have i:InV C 1:=⟨en.meets enc_cos0,enc_cos0.meets en⟩
  rw [e3,e4,show (0:Int) % 4=0 from rfl,tr0]
  refine ⟨by rw [trim_zero _ (by decide)],rfl,hasV_of ?_ one_fits (by rw [rv_int];exact trim_in2 hc.p (by decide) i)⟩
  exact (encl_parts (half_encl (p:=64) hc hc.e (by decide) (rlL (qL _)) Rat.le_refl)).1
theorem quar_one:(zB ⟨false,[1],0⟩ 96).2.2=0∧(zB ⟨false,[1],0⟩ 96).1=1:=by
  have f1:OneF ⟨false,[1],0⟩:=lit_f (by decide) (by decide) (by decide)
  have o1:=Xm f1
  have r1:(⟨false,[1],0⟩:Dx).rv=1:=by rw [lit_rv,p2_v.1];decide +kernel
  have t1:XG ⟨false,[1],0⟩=0:=by decide +kernel
  have k1:(⟨false,[1],0⟩:Dx).fitsB=true:=by rw [fits_K];decide +kernel
  have hf:=Ya (w:=160) (by decide) (by decide)
  obtain ⟨c,hc,c1,c2⟩:=hf.mid
  have ed:p2 (-3-160)/2+eps 160≤1/1000:=by decide +kernel
  have eE:2*(1*(p2 (-3-160)/2)+eps 160*(1+8*1))≤p2 (-2-96):=by decide +kernel
  have i0:0<c:=by grind
  have ic:=Rat.inv_mul_cancel c (by grind)
  have ip:=Rat.inv_pos.2 i0
  have j1:(6:Rat)/10≤c⁻¹:=by
    rw [←Rat.not_lt];intro hlt
    have:=Rat.mul_lt_mul_of_pos_right hlt i0
    grind
  have j2:c⁻¹≤7/10:=by
    rw [←Rat.not_lt];intro hlt
    have:=Rat.mul_lt_mul_of_pos_right hlt i0
    grind
  have e1:((1:Int):Rat)=1:=rfl
  obtain ⟨s1,s2,s3,s4⟩:=quart_ok hf (x:=⟨false,[1],0⟩) f1.p (w:=160) (by decide) (by decide) (A:=1) (B:=1) hc (by rw [r1];decide) (by rw [r1];decide) (m:=1) (a:=-2) (p:=96) (by decide) (by decide) (by rw [r1,e1];grind) (by rw [r1,e1];grind) (by decide +kernel) (by decide +kernel) (.inr (by
    rw [r1,e1,show (-2:Int)+1 = -1 by decide,p2_v.2.2.1];grind)) (by decide) eE (by decide) (by decide)
  obtain ⟨ok,e⟩:=okW_of s1 s3 s4
  have en:by4I (nW (zW 160) ⟨false,[1],0⟩ 160)=1:=by rw [by4_mod,s2];rfl
  have q:zB ⟨false,[1],0⟩ 96=(1,zY (zW 160) ⟨false,[1],0⟩ 160,0):=by
    rw [zB,o1,if_pos ⟨k1,by decide,by decide⟩,if_neg (by decide +kernel),t1,if_neg (by decide)]
    show quarL _ 96 (8+1) (0+96+64)=_
    rw [quarL,show min (0+96+64:Int) 8192=160 by decide,if_pos ok,e,en]
  rw [q];exact ⟨rfl,rfl⟩
theorem lv_tan:(Zg 15 4607182418800017408 64).2=0∧0<QJ (Zg 15 4607182418800017408 64).1.lo (mkS 1 0)∧Qj (Zg 15 4607182418800017408 64).1 64=true∧(Zg 15 4607182418800017408 64).1.Sm 65536:=by
  have e:¬ fexp 4607182418800017408=2047:=by decide
  obtain ⟨q0,q1⟩:=quar_one
  have r1:(⟨false,[1],0⟩:Dx).rv=1:=by rw [lit_rv,p2_v.1];decide +kernel
  have h0:(zB (Xg 4607182418800017408) (64+32)).2.2=0:=by rw [flt_one];exact q0
  obtain ⟨S,C,n,F⟩:=flt_pair (fltD_f 4607182418800017408) (fltD_bd e) (p:=64) (by decide) (by decide) h0
  obtain ⟨_,_,e5⟩:=encTr_0 e (p:=64) (by decide) (by decide) F h0
  have dr:(Xg 4607182418800017408).rv=1:=by rw [flt_one];exact r1
  have nk:n % 4=1:=by
    have:=F.k
    rw [flt_one] at this
    rw [←this];exact q1
  have n1:n=1:=by
    rcases F.qn.near with ⟨a,_⟩|⟨w,w0,w1,f⟩
    · rw [dr] at a;exact absurd a (by decide +kernel)
    · have hf:=Ya w0 (show w≤65000 by omega)
      have g:=f (zW w).lo.rv ⟨Rat.le_refl,hf.le⟩
      have lo:=hf.lo
      have i0:0<(zW w).lo.rv:=by grind
      have ip:=Rat.inv_pos.2 i0
      have ic:=Rat.inv_mul_cancel (zW w).lo.rv (by grind)
      have j:(zW w).lo.rv⁻¹≤1:=by
        rw [←Rat.not_lt];intro hlt
        have:=Rat.mul_lt_mul_of_pos_right hlt i0
        grind
      rw [dr,Rat.one_mul] at g
      have a1:(-1:Int)<n:=by
        have:((-1:Int):Rat)<(n:Rat):=by
          have c:((-1:Int):Rat) = -1:=rfl
          rw [c];have:=g.2.1;grind
        exact_mod_cast this
      have a2:n<2:=by
        have:(n:Rat)<((2:Int):Rat):=by
          have c:((2:Int):Rat)=2:=rfl
          rw [c];have:=g.1;grind
        exact_mod_cast this
      omega
  obtain ⟨hs,hc⟩:=F.half
  obtain ⟨z,i1,i2,z1,z2⟩:∃ z,(zB (Xg 4607182418800017408) (64+32)).2.1.lo.rv≤z∧z≤(zB (Xg 4607182418800017408) (64+32)).2.1.hi.rv∧-(572/1000)≤z∧z≤-(57/100):=by
    have en:=F.qn.enc
    rw [dr,n1] at en
    have ep:Enc (rhS 1 1) (-(5709/10000)) (-(5707/10000)):=by
      have a:=((piS_enc.scale (c:=1/2) (by decide +kernel)).neg).add (Enc.const 1)
      have eq:(fun n=>-(1/2*piS n)+1)=rhS 1 1:=funext fun i=>by
        unfold rhS
        have:((1:Int):Rat)=1:=rfl
        rw [this];grind
      rw [eq] at a
      exact a.wide (by decide +kernel) (by decide +kernel)
    have m1:=en.meets ep
    have m2:=ep.meets en
    have le:=en.self
    by_cases c:(zB (Xg 4607182418800017408) (64+32)).2.1.lo.rv≤-(5709/10000)
    · exact ⟨-(5709/10000),c,m2,by decide +kernel,by decide +kernel⟩
    · exact ⟨_,Rat.le_refl,le,by grind,by grind⟩
  have es:=(F.K.sin z i1 i2).neg
  have ec:=F.K.cos z i1 i2
  have en:(fun n=>-Yt z n)=Yt (-z):=funext fun n=>(sinS_neg z n).symm
  rw [en] at es
  obtain ⟨b1,b2⟩:=sinS_bd (t:=-z) (by grind) (by grind) es
  obtain ⟨b3,b4⟩:=cosS_bd (t:=z) (by grind) (by grind) ec
  have zz:z*z≤4/10:=by
    have:=(show Ab z (572/1000) from ⟨by grind,by grind⟩).sq
    have e:(572:Rat)/1000*(572/1000)≤4/10:=by decide +kernel
    grind
  have eta:p2 (-19-64)≤1/1000:=by decide +kernel
  have cn:=F.K.cn
  have C1:78/100≤C.lo.rv:=by
    have m:=rmR eta (rlL cn.1)
    have:=cn.2.2
    have c1:=F.K.c1
    grind
  have S1:S.hi.rv<0∧-S.lo.rv≤6/10:=by
    rcases F.s with ⟨a,_⟩|⟨_,sv⟩
    · rw [dr] at a;exact absurd a (by decide +kernel)
    · rcases sv with v | v
      · exfalso
        have:=v.nar.1
        have:=sinS_bd0 (t:=-z) (by grind) (by grind) es
        grind
      · have m:=rmR eta (rlL v.nar.1)
        have:=v.nar.2.2
        have:=v.nar.1
        exact ⟨by grind,by grind⟩
  obtain ⟨A,hA⟩:∃ A:Int,A = -8263:=⟨_,rfl⟩
  have sv:VM (p2 (-19-64)) (p2 A) (p2 5) S:=by
    rcases F.s with ⟨a,_⟩|⟨_,sv⟩
    · rw [dr] at a;exact absurd a (by decide +kernel)
    · rw [hA];exact sv
  obtain ⟨off,fin⟩:=quo_fin (A:=-3) (B:=3) (C:=A) (D:=5) (p:=64) (q:=64+24) hc.p (turnV_P S) (divV_p _ _ _) F.c (sv.turn hs.p) (rlL (qL _)) Rat.le_refl (by decide) (by decide) (by decide) (by omega) (by omega)
  rw [e5,nk,tr1]
  have tr:=turn_rv hs.p
  have le:=hs.e.self
  have iz:InV (ZF S) (-S.lo.rv):=⟨by rw [tr.1];grind,by rw [tr.2];exact Rat.le_refl⟩
  have ix:InV C C.lo.rv:=⟨Rat.le_refl,hc.e.self⟩
  have iy:=trim_in2 (p:=64+8) (divV_p C (ZF S) (64+24)) (by decide) (div_in hc.p (turnV_P S) off (by decide) ix iz)
  have y0:0 < -S.lo.rv:=by have:=S1.1;grind
  have yc:=Rat.inv_mul_cancel (-S.lo.rv) (by grind)
  have big:13/10≤C.lo.rv*(-S.lo.rv)⁻¹:=by
    rw [←Rat.not_lt];intro hlt
    have m:=Rat.mul_lt_mul_of_pos_right hlt y0
    rw [Rat.mul_assoc,yc,Rat.mul_one] at m
    have:=S1.2
    grind
  have vn:=YN fin.q fin.n
  have e64:p2 (-64)≤1/100:=by decide +kernel
  have r1':(mkS 1 0).rv=1:=rv_int 1
  refine ⟨rfl,cmpD_gt0.2 ?_,fin.n,QZ fin.r⟩
  rw [r1']
  have i2:=iy.2
  rcases vn with ⟨a,b⟩|⟨a,b,c⟩|⟨a,b,c⟩
  · exfalso;grind
  · have m:=rmR e64 (rlL a)
    grind
  · exfalso;grind
theorem sLv17_ok:SpecsOk Tryz.prog (sLv17 Zg (fun n=>mkS n 0) hasV sameV Qj QJ isTr):=⟨rEp_ok,fInt_ok,gHas_ok,gSame_ok,gNarrow_ok,fOrder_ok,rIs_ok,trivial⟩
theorem lLv17_ok:SpecOk Tryz.prog 13 wTrue :=
  qG (qO Yh sLv17_ok) mixed Tryz.func13 rfl (by decide) (by decide) fun _=>⟨fun _=>none,0,by
    show qH _ _ _ _ _ (fun t=>t=bT true)
    have z:(⟨⟨false,[],0⟩,⟨false,[],0⟩⟩:Vx)=zeroIv:=rfl
    obtain ⟨a1,a2,a3⟩:=lv_zero
    obtain ⟨b1,b2,b3,b4⟩:=lv_tan
    have c1:(Zg 15 9218868437227405312 64).2=5:=by rw [Zg,if_pos ⟨rfl,by decide,by decide⟩,if_pos (by decide)]
    refine (lLv17_vc Zg (fun n=>mkS n 0) hasV sameV Qj QJ isTr _).mpr ⟨⟨by omega,by omega⟩,⟨by omega,by omega⟩,⟨by omega,by omega⟩,⟨by omega,by omega⟩,?_⟩
    rw [a1,z,ZB,a2,a3,b1,qW.2 b2,b3,c1]
    exact ⟨⟨by omega,by omega⟩,⟨by omega,by omega⟩,⟨b4.1.mono (by omega),(mkS_sm6 (n:=1) (by omega)).mono (by omega)⟩,rfl,rfl⟩⟩
theorem sEn17_ok:SpecsOk Tryz.prog (sEn17 Zg Xz isTr isTr Yb freeB LikeOk):=⟨rEp_ok,hEu17_ok,rIs_ok,hIs17_ok,fFrom_ok,lLv17_ok,lFe_ok,lLk17_ok,trivial⟩
theorem flt_codes{d:Dx}(fd:OneF d)(hb:d.Bd 1074 1024){p:Int}(p0:8≤p)(p1:p≤2048):((zB d (p+32)).2.2=0∨(zB d (p+32)).2.2=6∧hardB d=true)∧((Z4 d (p+24)).2.2=0∨(Z4 d (p+24)).2.2=6):=by
  have cf:=flt_fits fd hb
  have ct:=flt_top fd hb
  constructor
  · have c:condQ d (p+32):=⟨cf,by omega,by omega⟩
    rcases ZC d (p+32) with ⟨k,_⟩|⟨_,_,q⟩|⟨_,_,k,_⟩|⟨_,_,_,q⟩|⟨_,_,_,w,q⟩
    · exact absurd c k
    · rw [q];exact .inl rfl
    · omega
    · rcases ql d fd.p (p+32) with ⟨c,h1,_,hc⟩|⟨h1,_,_⟩|⟨_,_,hh,_,_⟩|⟨k,r,h1,_⟩
      · rw [q] at h1;cases h1;exact absurd rfl hc.2
      · rw [q] at h1;cases h1
      · rw [q];exact .inr ⟨rfl,hh⟩
      · rw [q] at h1;cases h1
    · rw [q.eq];exact .inl rfl
  · have c:condQ d (p+24):=⟨cf,by omega,by omega⟩
    have fq:=faultQ_eq fd.p (p+24)
    rw [if_pos c,if_neg (by omega)] at fq
    unfold Z4
    split
    · rw [fq];exact .inl rfl
    · rcases hquL_spec (x:=d) (p:=p+24) 9 (max (XG (qC d)) 0+(p+24)+64) (by omega) with e | ⟨w,_,_,_,e⟩
      · rw [e];exact .inr rfl
      · rw [e];exact .inl rfl
theorem hard_ne{d:Dx}(h:hardB d=true):d.zeroB=false:=by
  unfold hardB at h
  rw [Bool.and_eq_true] at h
  exact QE h.1
theorem flt_free{d:Dx}(fd:OneF d)(hb:d.Bd 1074 1024)(h:hardB d=true):freeB d=true:=by
  have t:=flt_top fd hb
  rw [Xm fd] at t
  have e:leI 1024 (topX d)=false:=Qn.2 (by show ¬ 1024≤XG d;omega)
  rw [freeB,flt_fits fd hb,hard_ne h,e,h]
  simp
theorem encTr_code{x p f:Int}(hf:isTr f=true)(e:¬ fexp x=2047)(p0:8≤p)(p1:p≤2048)(h:(zB (Xg x) (p+32)).2.2=6):Zg f x p=(zeroIv,6):=by
  have b:zM (Xg x) p=((zeroIv,zeroIv),6):=by rw [zM,if_neg (by rw [h];decide),h]
  rw [Zg,if_pos ⟨hf,p0,p1⟩,if_neg e,b,if_neg (by decide)]
theorem encHr_code{x p f:Int}(hf:isTr f=true)(e:¬ fexp x=2047)(p0:8≤p)(p1:p≤2048)(h:(Z4 (Xg x) (p+24)).2.2=6):Xz f x p=(zeroIv,6):=by
  have b:z7 (Xg x) p=((zeroIv,zeroIv),6):=by rw [z7,if_pos ⟨flt_fits (fltD_f x) (fltD_bd e),p0,p1⟩,if_neg (by rw [h];decide),h]
  rw [Xz,if_pos ⟨hf,p0,p1⟩,if_neg e,b,if_neg (by decide)]
theorem enc17_all(f x p:Int):LikeOk (Zg f x p).1 (Zg f x p).2 (Xz f x p).1 (Xz f x p).2 p (eqI (Xz f x p).2 6 || (eqI (Xz f x p).2 0 && (neI (Zg f x p).2 0 && freeB (Yb x).1))):=by
  by_cases c:isTr f=true∧8≤p∧p≤2048
  rotate_left
  · rw [Zg,Xz,if_neg c,if_neg c]
    exact .none (ZB _) (by decide) (fun _=>by decide) rfl
  by_cases e:fexp x=2047
  · rw [Zg,Xz,if_pos c,if_pos c,if_pos e,if_pos e]
    exact .none (ZB _) (by decide) (fun _=>by decide) rfl
  obtain ⟨hf,p0,p1⟩:=c
  have fd:=fltD_f x
  have hb:=fltD_bd e
  have ef:Yb x=(Xg x,0):=by rw [Yb,if_neg e]
  obtain ⟨c1,c2⟩:=flt_codes fd hb p0 p1
  rcases c1 with q | ⟨q,hh⟩
  · rcases c2 with h | h
    · obtain ⟨b1,b2,g1,g2,g3⟩:=enc17 fd hb p0 p1 q h
      obtain ⟨wa,wb⟩:=bothHr_ok fd.p p0 p1
      have f3:f=13∨f=14∨f=15:=by
        unfold isTr at hf
        rw [Bool.and_eq_true] at hf
        have:=zS.1 hf.1
        have:=zS.1 hf.2
        omega
      have c:isTr f=true∧8≤p∧p≤2048:=⟨hf,p0,p1⟩
      rw [Zg,Xz,if_pos c,if_pos c,if_neg e,if_neg e,if_pos b1,if_pos b2]
      rcases f3 with rfl | rfl | rfl
      · rw [if_neg (by decide),if_neg (by decide),if_pos rfl]
        exact .both rfl rfl (wa.s.mono (by omega)) g1
      · rw [if_pos rfl,if_neg (by decide),if_pos rfl]
        exact .both rfl rfl (wb.s.mono (by omega)) g2
      · rw [if_neg (by decide),if_pos rfl,if_neg (by decide),if_neg (by decide)]
        exact .both rfl rfl ((divV_sm wa.p wb.p wa.s wb.s (by omega) (by omega)).mono (by omega)) g3
    · rw [encHr_code hf e p0 p1 h]
      obtain ⟨S,C,n,F⟩:=flt_pair fd hb p0 (by omega) q
      obtain ⟨e3,e4,e5⟩:=encTr_0 e p0 p1 F q
      have f3:f=13∨f=14∨f=15:=by
        unfold isTr at hf
        rw [Bool.and_eq_true] at hf
        have:=zS.1 hf.1
        have:=zS.1 hf.2
        omega
      have w:(Zg f x p).2=0:=by
        rcases f3 with rfl | rfl | rfl
        · rw [e3]
        · rw [e4]
        · rw [e5]
      exact .hard rfl rfl w
  · rw [encTr_code hf e p0 p1 q]
    rcases c2 with h | h
    · have w:(Xz f x p).2=0:=by
        have b2:(z7 (Xg x) p).2=0:=by
          rw [z7,if_pos ⟨flt_fits fd hb,p0,p1⟩,if_pos h]
        rw [Xz,if_pos ⟨hf,p0,p1⟩,if_neg e,if_pos b2]
        split
        · rfl
        · split<;>rfl
      rw [w,ef,flt_free fd hb hh]
      exact .many (ZB _) rfl (.inl rfl) (.inl rfl)
    · rw [encHr_code hf e p0 p1 h]
      exact .many (ZB _) rfl (.inr rfl) (.inl rfl)
def lEn17:qU:=qF [.i .u8,.i .u64,.i .i64] fun (_ x _:Int)=>(some (zR x),bT true)
theorem lEn17_ok:SpecOk Tryz.prog 3 lEn17 :=
  qG (qO Yh sEn17_ok) mixed Tryz.func3 rfl (by decide) (by decide) fun (f:Int) _ (x:Int) _ (p:Int) _ hp=>⟨fun _=>none,0,by
    have hw:zR x:=hp
    show qH _ _ _ _ _ (fun t=>t=bT true)
    have k:=enc17_all f x p
    refine (lEn17_vc f x p Zg Xz isTr isTr Yb freeB LikeOk _).mpr ⟨hw,hw,hw,?_⟩
    refine qB (fun _=>qB (fun h=>?_) fun h=>qB (fun h'=>qB (fun h''=>?_) fun h''=>?_) fun h'=>?_) fun h=>?_
    · rw [h] at k;exact ⟨k,rfl,rfl⟩
    · rw [h,h',h''] at k;exact ⟨k,rfl,rfl⟩
    · rw [h,h',h''] at k;exact ⟨k,rfl,rfl⟩
    · rw [h,h'] at k;exact ⟨k,rfl,rfl⟩
    · exfalso;revert h;cases isTr f<;>simp⟩
def sBt17(fB hB:Dx→Int→(Vx×Vx)×Int)(fZ:Dx→Bool)(fT:Dx→Int)(fF:Dx→Bool)(lk:Vx→Int→Vx→Int→Int→Bool→Prop):List (FuncId×qU):=[(37,qF [.d,.i .i64] fun (x:Dx) (p:Int)=>(none,reT2 (fB x p))),(38,qF [.d,.i .i64] fun (x:Dx) (p:Int)=>(none,reT2 (hB x p))),(13,wTrue),(39,qF [.d] fun (x:Dx)=>(none,bT (fZ x))),(31,qF [.d] fun (x:Dx)=>(some (eB 2305843009213693952 x),iT (fT x))),(17,qF [.d] fun (x:Dx)=>(none,bT (fF x))),(16,qF [.v,.i .i64,.v,.i .i64,.i .i64,.b] fun (v:Vx) (why:Int) (u:Vx) (no p:Int) (free:Bool)=>(some (lk v why u no p free),bT true))]
theorem lBt17_vc(x:Dx)(p:Int)(fB hB:Dx→Int→(Vx×Vx)×Int)(fZ:Dx→Bool)(fT:Dx→Int)(fF:Dx→Bool)(lk:Vx→Int→Vx→Int→Int→Bool→Prop)(Q:Tv→Prop):qH ⟨tysR,sBt17 fB hB fZ fT fF lk⟩ (fun _=>none) 0 Tryz.f8 [.agg (dyL false x),.one (.int .i64 p)] Q=(br (eqI (hB x p).snd 6) (lk (fB x p).fst.fst (fB x p).snd (hB x p).fst.fst (hB x p).snd p true∧lk (fB x p).fst.snd (fB x p).snd (hB x p).fst.snd (hB x p).snd p true∧Q (bT true)) (br (eqI (hB x p).snd 0) (br (neI (fB x p).snd 0) (lk (fB x p).fst.fst (fB x p).snd (hB x p).fst.fst (hB x p).snd p (fF x)∧lk (fB x p).fst.snd (fB x p).snd (hB x p).fst.snd (hB x p).snd p (fF x)∧Q (bT true)) (br (!fZ x) (eB 2305843009213693952 x∧br (ltI (fT x) (-16384)) (lk (fB x p).fst.fst (fB x p).snd (hB x p).fst.fst (hB x p).snd p (fF x)∧lk (fB x p).fst.snd (fB x p).snd (hB x p).fst.snd (hB x p).snd p (fF x)∧Q (bT true)) (lk (fB x p).fst.fst (fB x p).snd (hB x p).fst.fst (hB x p).snd p false∧lk (fB x p).fst.snd (fB x p).snd (hB x p).fst.snd (hB x p).snd p false∧Q (bT true))) (lk (fB x p).fst.fst (fB x p).snd (hB x p).fst.fst (hB x p).snd p false∧lk (fB x p).fst.snd (fB x p).snd (hB x p).fst.snd (hB x p).snd p false∧Q (bT true)))) (lk (fB x p).fst.fst (fB x p).snd (hB x p).fst.fst (hB x p).snd p false∧lk (fB x p).fst.snd (fB x p).snd (hB x p).fst.snd (hB x p).snd p false∧Q (bT true)))):=by kernel_rfl
theorem refH_4{c:Rat}(hc:InV (refH 3328) c):c*(1/2)≤4/5:=by
  have k:=refH_hf (w:=3328) (by decide) (by decide)
  have m1:=k.enc.meets piS_enc2
  have num:(((piN:Int)+2:Int):Rat)*p2 (-100)≤315/100:=by decide +kernel
  have nd:p2 (23-3328)/2≤1/100:=by decide +kernel
  have nr:=k.nar
  have h:=hc.2
  grind
theorem soft_amt{x:Dx}(hx:0≤x.m)(z:x.m≠0)(t:XG (qC x)<1024)(hs:hardB x=false)(h0:x.rv≠0){p:Int}(p0:8≤p)(h:(zB x p).2.2=0):p2 (-8258)≤(zB x p).2.1.lo.rv∨p2 (-8258)≤-(zB x p).2.1.hi.rv:=by
  obtain ⟨nv,w,w0,w1,e⟩:=quar_off hx h0 h
  have fy:OneF (qC x):=oneD_f hx
  have ey:(qC x).rv=x.rv:=Qs hx
  obtain ⟨t1,t2⟩:=top_lt fy.p t
  rw [ey] at t1 t2
  have hf:=Ya w0 (show w≤65000 by omega)
  obtain ⟨c,hc,hc',_,_⟩:=hf.common (refH_hf (w:=3328) (by decide) (by decide))
  have he:=eig_of_half (by decide) (by decide) hc'
  have far:=soft_far hx z hs (A:=p2 (1024:Nat)) (by decide +kernel) (by grind) (by grind) he (refH_4 hc')
  have ra:=rest_any hf.p fy.p (w:=w) (by omega) hc
  rw [←e] at ra
  generalize (zB x p).2.1=R at *
  generalize nI (zW w) (qC x) w=n at *
  have f0:=far (2*n)
  have e2:((2:Int):Rat)=2:=rfl
  rw [rcM,e2] at f0
  have b0:x.rv-2*(n:Rat)*(c*(1/2))=x.rv-(n:Rat)*c:=by grind
  rw [b0] at f0
  rw [ey] at ra
  generalize x.rv-(n:Rat)*c=y at *
  have q1:p2 (-8258)≤p2 (-2048)/2:=by decide +kernel
  have qp:=qL (-2048)
  have d1:p2 (-p)≤1:=by
    have:=Qz (show -p≤0 by omega)
    rw [show p2 0=1 by decide +kernel] at this
    exact this
  obtain ⟨r1,r2⟩:=ra
  rcases nv with ⟨a,b,d⟩|⟨a,b,d⟩
  · have m:=rmR d1 (rlL a)
    refine .inl ?_
    rcases f0 with f | f<;>grind
  · have m:=rmR d1 (rlL a)
    refine .inr ?_
    rcases f0 with f | f<;>grind
theorem amt_both{x:Dx}(hx:0≤x.m)(h0:x.rv≠0){p:Int}(p0:8≤p)(p1:p≤2064)(h:(zB x (p+32)).2.2=0)(am:p2 (-8258)≤(zB x (p+32)).2.1.lo.rv∨p2 (-8258)≤-(zB x (p+32)).2.1.hi.rv)(s1:Qa (zB x (p+32)).2.1.lo)(s2:Qa (zB x (p+32)).2.1.hi)(rr:qT (zB x (p+32)).2.1=true)(rq:(zB x (p+32)).2.1.P) :
    ∃ S C,Z1 (zB x (p+32)).2.1 (p+24)=((S,C),0):=by
  obtain ⟨n,_⟩:=quar_off hx h0 h
  have f:=QY rr
  have F1:=fault_of (p:=p+24) rq.1 f.1 s1 (by omega) (by omega)
  have F2:=fault_of (p:=p+24) rq.2 f.2.1 s2 (by omega) (by omega)
  have d0:=rlL (qL (-(p+32)))
  have dd:p2 (-(p+32))≤p2 (-(p+24)):=Qz (by omega)
  obtain ⟨r,v⟩:=pair_vm rq F1 F2 n am (by decide) d0 dd
  rcases pair_ok rq rr F1 F2 (.inr n) d0 dd with ⟨_,k⟩|⟨e,K⟩
  · rw [r] at k;cases k
  · exact ⟨_,_,e⟩
theorem z_big{x:Dx}(hx:0≤x.m):(qC x).m≠0↔x.m≠0:=by
  have e:(qC x).m=0↔x.m=0:=Zw hx
  exact ⟨fun h k=>h (e.2 k),fun h k=>h (e.1 k)⟩
theorem dy_codes{x:Dx}(hx:0≤x.m){p:Int}(f:x.fitsB=true)(p0:8≤p)(p1:p≤2048) :
    ((zB x (p+32)).2.2=3∧(Z4 x (p+24)).2.2=3)∨(((Z4 x (p+24)).2.2=0∨(Z4 x (p+24)).2.2=6)∧((zB x (p+32)).2.2=0∨(zB x (p+32)).2.2=6∧hardB x=true∧XG (qC x)<1024)∧(x.m≠0→XG (qC x)<1024)):=by
  have c:condQ x (p+32):=⟨f,by omega,by omega⟩
  have c':condQ x (p+24):=⟨f,by omega,by omega⟩
  have fq:=faultQ_eq hx (p+24)
  rw [if_pos c'] at fq
  by_cases b:(qC x).m≠0∧1024≤XG (qC x)
  · rw [if_pos b] at fq
    refine .inl ⟨?_,?_⟩
    · rcases ZC x (p+32) with ⟨k,_⟩|⟨_,k,_⟩|⟨_,_,_,q⟩|⟨_,_,k,_⟩|⟨_,_,k,_⟩
      · exact absurd c k
      · exact absurd k b.1
      · rw [q]
      · have:=b.2;omega
      · have:=b.2;omega
    · unfold Z4
      rw [fq];rfl
  · rw [if_neg b] at fq
    refine .inr ⟨?_,?_,fun z=>Classical.byContradiction fun k=>b ⟨(z_big hx).2 z,by omega⟩⟩
    · unfold Z4
      split
      · rw [fq];exact .inl rfl
      · rcases hquL_spec (x:=x) (p:=p+24) 9 (max (XG (qC x)) 0+(p+24)+64) (by omega) with e | ⟨w,_,_,_,e⟩
        · rw [e];exact .inr rfl
        · rw [e];exact .inl rfl
    · rcases ZC x (p+32) with ⟨k,_⟩|⟨_,_,q⟩|⟨_,k,k',_⟩|⟨_,_,t,q⟩|⟨_,_,_,w,q⟩
      · exact absurd c k
      · rw [q];exact .inl rfl
      · exact absurd ⟨k,k'⟩ b
      · rcases ql x hx (p+32) with ⟨c,h1,_,hc⟩|⟨h1,_,_⟩|⟨_,_,hh,_,_⟩|⟨k,r,h1,_⟩
        · rw [q] at h1;cases h1;exact absurd rfl hc.2
        · rw [q] at h1;cases h1
        · rw [q];exact .inr ⟨rfl,hh,t⟩
        · rw [q] at h1;cases h1
      · rw [q.eq];exact .inl rfl
theorem pairq_half{x:Dx}{p n:Int}{S C:Vx}(h:PairQ x p n S C):Half (p2 (-19-p)) S (sinQ (rhS x.rv n))∧Half (p2 (-19-p)) C (cosQ (rhS x.rv n)):=by
  obtain ⟨R,K⟩:=h.k
  have c0:=K.c0
  have c1:=K.c1
  exact ⟨⟨K.sp,K.sf,K.sr,K.st,K.s32,h.s⟩,⟨K.cp,K.cf,K.cr,.inr (.inl K.cn),⟨by grind,by grind⟩,h.c⟩⟩
theorem dy_pair{x:Dx}(hx:0≤x.m){p:Int}(p0:8≤p)(p1:p≤2048)(h:(zB x (p+32)).2.2=0)(ht:x.m≠0→XG (qC x)<1024) :
    (zM x p=((zeroIv,zeroIv),3)∧hardB x=true∧x.m≠0)∨∃ S C n,zM x p=(ZD (n % 4) (S,C),0)∧PairQ x p n S C∧QNum x (p+32) (zB x (p+32)).2.1 n:=by
  obtain ⟨n,kn,Q⟩:=quar_num hx h
  rcases qnum_pair Q p0 (by omega) with ⟨e,k⟩|⟨S,C,e,PQ,K⟩
  · refine .inl ⟨by rw [zM,if_pos h,e,if_neg (by decide)],?_⟩
    have z:x.m≠0:=fun z=>by
      have zm:(qC x).m=0:=Classical.byContradiction fun k=>(z_big hx).1 k z
      have e0:(zB x (p+32)).2.1=zeroIv:=by
        rcases ZC x (p+32) with ⟨_,q⟩|⟨_,_,q⟩|⟨_,k,_⟩|⟨_,k,_⟩|⟨_,k,_⟩
        · rw [q]
        · rw [q]
        all_goals exact absurd zm k
      rw [e0] at k
      have:ZA (QT zeroIv) (p+24)=zeroIv:=by
        have o:qC (⟨false,[],0⟩:Dx)=⟨false,[],0⟩:=Xm ⟨false,0,0,by decide,rfl⟩
        have s:Zf ⟨false,[],0⟩ (p+24)=zeroIv:=by rw [Zf,if_pos (show Dx.zeroB ⟨false,[],0⟩=true from rfl)]
        show (⟨(Zf (qC ⟨false,[],0⟩) (p+24)).lo,(Zf (qC ⟨false,[],0⟩) (p+24)).hi⟩:Vx)=zeroIv
        rw [o,s]
      rw [this,trim_zero _ (by omega),zero_right] at k
      cases k
    refine ⟨?_,z⟩
    cases hs:hardB x with
    | true=>rfl
    | false =>
      exfalso
      have h0:x.rv≠0:=fun r=>z (QC.1 ((Z9 hx).2 r))
      obtain ⟨s1,s2⟩:=small_of Q.enc.self Q.lo Q.hi
      obtain ⟨S,C,e'⟩:=amt_both hx h0 p0 (by omega) h (soft_amt hx z (ht z) hs h0 (by omega) h) s1 s2 Q.r Q.q
      rw [e'] at e;cases e
  · exact .inr ⟨S,C,n,by rw [zM,if_pos h,e,if_pos rfl,kn],PQ,Q⟩
theorem hard_free{x:Dx}(f:x.fitsB=true)(ht:topX x<1024)(h:hardB x=true):freeB x=true:=by
  have e:leI 1024 (topX x)=false:=Qn.2 (by omega)
  rw [freeB,f,hard_ne h,e,h]
  simp
theorem both17{x:Dx}(hx:0≤x.m)(p:Int)(fr:Bool)(k6:(z7 x p).2=6→fr=true)(k0:(z7 x p).2=0→(Za x p).2≠0→fr=freeB x) :
    LikeOk (Za x p).1.1 (Za x p).2 (z7 x p).1.1 (z7 x p).2 p fr∧LikeOk (Za x p).1.2 (Za x p).2 (z7 x p).1.2 (z7 x p).2 p fr:=by
  by_cases c:x.fitsB=true∧8≤p∧p≤2048
  rotate_left
  · have e1:Za x p=((zeroIv,zeroIv),2):=by
      rw [Za,if_neg]
      rintro ⟨a,b⟩
      refine c ⟨?_,b⟩
      unfold chkD at a
      split at a
      · assumption
      · cases a
    have e2:z7 x p=((zeroIv,zeroIv),2):=by rw [z7,if_neg c]
    rw [e1,e2]
    exact ⟨.none (ZB _) (by decide) (fun _=>by decide) rfl,.none (ZB _) (by decide) (fun _=>by decide) rfl⟩
  obtain ⟨f,p0,p1⟩:=c
  have cq:chkD x=0∧8≤p∧p≤2048:=⟨by rw [chkD,if_pos f],p0,p1⟩
  have tq:∀ w,w≠0→zM x p=((zeroIv,zeroIv),w)→Za x p=((zeroIv,zeroIv),w):=fun w hw e=>by
    rw [Za,if_pos cq,e,if_neg hw]
  have hq:(Z4 x (p+24)).2.2≠0→z7 x p=((zeroIv,zeroIv),(Z4 x (p+24)).2.2):=fun h=>by
    rw [z7,if_pos ⟨f,p0,p1⟩,if_neg h]
  have tr:(zB x (p+32)).2.2≠0→zM x p=((zeroIv,zeroIv),(zB x (p+32)).2.2):=fun h=>by
    rw [zM,if_neg h]
  have many:∀ w,w=6∨w=3→hardB x=true→x.m≠0→topX x<1024→Za x p=((zeroIv,zeroIv),w)→((z7 x p).2=0∨(z7 x p).2=6) →
      LikeOk (Za x p).1.1 (Za x p).2 (z7 x p).1.1 (z7 x p).2 p fr∧LikeOk (Za x p).1.2 (Za x p).2 (z7 x p).1.2 (z7 x p).2 p fr:=fun w hw hh z t e hn=>by
    have hf:fr=true:=by
      rcases hn with n | n
      · rw [k0 n (by rw [e];rcases hw with rfl | rfl<;>decide)];exact hard_free f t hh
      · exact k6 n
    rw [e]
    exact ⟨.many (ZB _) hf hn hw,.many (ZB _) hf hn hw⟩
  have topx:x.m≠0→XG (qC x)<1024→topX x<1024:=fun z t=>Classical.byContradiction fun k=>by
    have ey:(qC x).rv=x.rv:=Qs hx
    have am:=amt_same zZ hx ey
    have l1:=amt_lt (m:=(qC x).m) (e:=(qC x).e)
    have l2:=amt_ge (m:=x.m) (e:=x.e) (by omega)
    have l3:=Qz (show (qC x).e+(blen (qC x).m:Int)≤1024 by unfold XG at t;omega)
    have l4:=Qz (show 1024≤x.e+(blen x.m:Int)-1 by unfold topX at k;omega)
    rw [am] at l1
    grind
  rcases dy_codes hx f p0 p1 with ⟨a,b⟩|⟨hn,qn,ht⟩
  · rw [tq 3 (by decide) (by rw [tr (by rw [a];decide),a]),hq (by rw [b];decide),b]
    exact ⟨.none (ZB _) (by decide) (fun _=>by decide) rfl,.none (ZB _) (by decide) (fun _=>by decide) rfl⟩
  have hn':(z7 x p).2=0∨(z7 x p).2=6:=by
    rcases hn with h | h
    · left;rw [z7,if_pos ⟨f,p0,p1⟩,if_pos h]
    · right;rw [hq (by rw [h];decide),h]
  rcases qn with q | ⟨q,hh,t⟩
  rotate_left
  · have z:x.m≠0:=fun z=>by
      have:=hard_ne hh
      rw [QC.2 z] at this;cases this
    exact many 6 (.inl rfl) hh z (topx z t) (tq 6 (by decide) (by rw [tr (by rw [q];decide),q])) hn'
  rcases dy_pair hx p0 p1 q ht with ⟨e,hh,z⟩|⟨S,C,n,e,PQ,Q⟩
  · exact many 3 (.inr rfl) hh z (topx z (ht z)) (tq 3 (by decide) e) hn'
  have e':Za x p=((qV (ZD (n % 4) (S,C)).1 (p+8),qV (ZD (n % 4) (S,C)).2 (p+8)),0):=by rw [Za,if_pos cq,e,if_pos rfl]
  rcases hn with h | h
  · obtain ⟨n',kn',H,D⟩:=doc_pair hx p0 p1 h
    obtain rfl:n=n':=qh_same Q H
    have eh:z7 x p=(ZD (n % 4) (ZN (Z4 x (p+24)).2.1 (p+24),zO (Z4 x (p+24)).2.1 (p+24)),0):=by rw [z7,if_pos ⟨f,p0,p1⟩,if_pos h,kn']
    obtain ⟨wa,wb⟩:=bothHr_ok hx p0 p1
    rw [eh] at wa wb
    obtain ⟨hs,hc⟩:=pairq_half PQ
    obtain ⟨xs,xc⟩:=turn_half hs hc (n % 4)
    obtain ⟨us,uc⟩:=enc_turned D.u.p D.w.p D.s D.c (n % 4)
    have e0:=rlL (qL (-19-p))
    rw [e',eh]
    exact ⟨.both rfl rfl (wa.s.mono (by omega)) (half_encl xs us p0 e0 Rat.le_refl),.both rfl rfl (wb.s.mono (by omega)) (half_encl xc uc p0 e0 Rat.le_refl)⟩
  · have e6:=hq (by rw [h];decide)
    rw [h] at e6
    have ft:fr=true:=k6 (by rw [e6])
    rw [e',e6]
    exact ⟨.hard ft rfl rfl,.hard ft rfl rfl⟩
theorem sBt17_ok:SpecsOk Tryz.prog (sBt17 Za z7 Dx.zeroB topX freeB LikeOk):=⟨rBp_ok,hBu17_ok,lLv17_ok,fZero_ok,fTop_ok,lFe_ok,lLk17_ok,trivial⟩
def lBt17:qU:=qF [.d,.i .i64] fun (_:Dx) (_:Int)=>(none,bT true)
theorem lBt17_ok:SpecOk Tryz.prog 8 lBt17 :=
  qG (qO Yh sBt17_ok) mixed Tryz.func8 rfl (by decide) (by decide) fun (x:Dx) hx (p:Int) _ _=>⟨fun _=>none,0,by
    have hm:=Dx.Wf.m0 hx
    show qH _ _ _ _ _ (fun t=>t=bT true)
    refine (lBt17_vc x p Za z7 Dx.zeroB topX freeB LikeOk _).mpr (qB (fun h=>?_) fun h=>qB (fun h'=>qB (fun h''=>?_) fun h''=>qB (fun z=>⟨?_,qB (fun t=>?_) fun t=>?_⟩) fun z=>?_) fun h'=>?_)
    · have k:=both17 hm p true (fun _=>rfl) (fun a=>by rw [zX.1 h] at a;cases a)
      exact ⟨k.1,k.2,rfl⟩
    · have k:=both17 hm p (freeB x) (fun a=>absurd a (qR.1 h)) (fun _ _=>rfl)
      exact ⟨k.1,k.2,rfl⟩
    · have n0:=zX.1 h'
      have f:x.fitsB=true:=Classical.byContradiction fun k=>by
        rw [z7,if_neg (fun c=>k c.1)] at n0;cases n0
      exact (ZQ f).eB (by omega)
    · have k:=both17 hm p (freeB x) (fun a=>absurd a (qR.1 h)) (fun _ _=>rfl)
      exact ⟨k.1,k.2,rfl⟩
    · have k:=both17 hm p false (fun a=>absurd a (qR.1 h)) (fun _ w=>absurd (qQ.1 h'') w)
      exact ⟨k.1,k.2,rfl⟩
    · have k:=both17 hm p false (fun a=>absurd a (qR.1 h)) (fun _ w=>absurd (qQ.1 h'') w)
      exact ⟨k.1,k.2,rfl⟩
    · have k:=both17 hm p false (fun a=>absurd a (qR.1 h)) (fun a _=>absurd a (qR.1 h'))
      exact ⟨k.1,k.2,rfl⟩⟩
def IvJ(n0:Nat)(w:World)(v:Value):Prop:=∃ a s e b t f,v = .agg #[.bool a,s,.int .i64 e,.bool b,t,.int .i64 f]∧JunkAt n0 w s∧JunkAt n0 w t
abbrev Cn(w:World):Base:=⟨w.heap.size,fun _=>False,0⟩
theorem rep_junk{w w':World}{v:Value}{xs:List Int}(h:Rep (Cn w) noBox w' v (.words true xs)):JunkAt w.heap.size w' v:=by
  cases h with
  | words h=>exact h.junk fun g hg=>hg.2 rfl
theorem rep_ivJ{w w':World}{v:Value}{u:Vx}(h:RepS (Cn w) noBox w' v (.agg (ivL true u))):IvJ w.heap.size w' v:=by
  obtain ⟨vs,rfl,hl⟩:=h
  match vs,hl with
  | [a,b,c,d,e,f],⟨h1,h2,h3,h4,h5,h6,_⟩ =>
    obtain rfl:=YC h1
    obtain rfl:=ZH h3
    obtain rfl:=YC h4
    obtain rfl:=ZH h6
    exact ⟨_,_,_,_,_,_,rfl,rep_junk h2,rep_junk h5⟩
def reTn(r:Vx×Int):Tv:=.tup [.agg (ivL true r.1),.one (.int .i64 r.2)]
def reT2n(r:(Vx×Vx)×Int):Tv:=.tup [.agg (ivL true r.1.1),.agg (ivL true r.1.2),.one (.int .i64 r.2)]
def rBpN:qU:=qF [.d,.i .i64] fun (x:Dx) (p:Int)=>(none,reT2n (Za x p))
theorem rBpN_ok:SpecOk Tryz.prog 37 rBpN :=
  qG (qO Yh sBp17_ok) mixed Tryz.func37 rfl (by decide) (by decide) fun (x:Dx) hw (p:Int) _ _=>⟨fun _=>none,0,by
    have hx:=Dx.Wf.m0 hw
    show qH _ _ _ _ _ (fun t=>t=reT2n (Za x p))
    refine (rBp_vc x p chkD zM qV _).mpr (qB (fun h=>?_) fun h=>qB (fun h'=>?_) fun h'=>qB (fun h''=>?_) fun h''=>⟨⟨?_,?_⟩,qB (fun k=>?_) fun k=>?_⟩)
    · rw [Za,if_neg (fun c=>Qi.1 h c.1)];rfl
    · have:=qW.1 h'
      rw [Za,if_neg (by omega)];rfl
    · have:=qW.1 h''
      rw [Za,if_neg (by omega)];rfl
    · have:=qJ.1 h';omega
    · have:=qJ.1 h'';omega
    all_goals
      have c:chkD x=0∧8≤p∧p≤2048:=⟨qQ.1 h,by have:=qJ.1 h';omega,by have:=qJ.1 h'';omega⟩
    · rw [Za,if_pos c,if_neg (Qi.1 k)];rfl
    · have e:=qQ.1 k
      obtain ⟨s,t,hs,ht⟩:=bothTr_right hx c.2.1 (by omega) e
      refine ⟨⟨by omega,by omega⟩,⟨(QZ hs.r).mono (by omega),by omega,by omega⟩,⟨by omega,by omega⟩,⟨(QZ ht.r).mono (by omega),by omega,by omega⟩,rfl,?_⟩
      rw [Za,if_pos c,if_pos e];rfl⟩
theorem both_junk{w:World}{s:Value}{d:Dx}(p:Int)(hT:Tab w)(h:NatAt 0 w s d.xs) :
    Calls Tryz.prog 37 #[.agg #[.bool d.neg,s,.int .i64 d.e],.int .i64 p] w fun e w'=>∃ a b k,e = .returned (.tuple #[a,b,.int .i64 k])∧IvJ w.heap.size w' a∧IvJ w.heap.size w' b∧Below w.heap.size w w':=by
  have hr:RepSs (Cn w) noBox w [.agg #[.bool d.neg,s,.int .i64 d.e],.int .i64 p] [.agg (dyL false d),.one (.int .i64 p)] :=
    ⟨⟨[.bool d.neg,s,.int .i64 d.e],rfl,Rep.bool _,.words (h.isIn.mono fun g _ _=>⟨⟨by simp,fun h=>h.elim⟩,by simp⟩),Rep.int _ _,trivial⟩,Rep.int _ _,trivial⟩
  refine (rBpN_ok.run (Cn w) w _ _ rfl (fun g h=>h.elim) hT hr trivial).mono ?_
  rintro e w' ⟨v,rfl,hv,hb⟩
  obtain ⟨vs,rfl,hl⟩:=hv
  match vs,hl with
  | [a,b,k],⟨h1,h2,h3,_⟩ =>
    obtain rfl:=YE h3
    exact ⟨a,b,_,rfl,rep_ivJ h1,rep_ivJ h2,hb⟩
theorem lives_calls{w:World}(hT:Tab w):Calls Tryz.prog 13 #[] w fun e w'=>e = .returned (.bool true)∧Below w.heap.size w w':=by
  refine (lLv17_ok.run (Cn w) w [] [] rfl (fun g h=>h.elim) hT trivial trivial).mono ?_
  rintro e w' ⟨v,rfl,hv,hb⟩
  obtain rfl:=repS_bool (show RepS (Cn w) noBox w' v (.one (.bool true)) from hv)
  exact ⟨rfl,hb⟩
def rEpN:qU:=qF [.i .u8,.i .u64,.i .i64] fun (f x p:Int)=>(some (zR x),reTn (Zg f x p))
theorem rEpN_ok:SpecOk Tryz.prog 10 rEpN :=
  qG (qO Yh sEp17_ok) mixed Tryz.func10 rfl (by decide) (by decide) fun (f:Int) _ (x:Int) _ (p:Int) _ hp=>⟨fun _=>none,0,by
    have hw:zR x:=hp
    show qH _ _ _ _ _ (fun t=>t=reTn (Zg f x p))
    refine (rEp_vc f x p isTr Yb zM qV Zx _).mpr (qB (fun h=>?_) fun h=>qB (fun h'=>?_) fun h'=>qB (fun h''=>?_) fun h''=>⟨hw,qB (fun k=>?_) fun k=>?_⟩)
    · rw [Zg,if_neg (by rw [QE h];simp)];rfl
    · have:=qW.1 h'
      rw [Zg,if_neg (by omega)];rfl
    · have:=qW.1 h''
      rw [Zg,if_neg (by omega)];rfl
    · have c:isTr f=true∧8≤p∧p≤2048:=⟨q9 h,by have:=qJ.1 h';omega,by have:=qJ.1 h'';omega⟩
      have k:=Qi.1 k
      have e:fexp x=2047:=Classical.byContradiction fun c=>k (by rw [Yb,if_neg c])
      rw [Zg,if_pos c,if_pos e,Yb,if_pos e];rfl
    have c:isTr f=true∧8≤p∧p≤2048:=⟨q9 h,by have:=qJ.1 h';omega,by have:=qJ.1 h'';omega⟩
    have k:=qQ.1 k
    have e:¬ fexp x=2047:=fun c=>by rw [Yb,if_pos c] at k;cases k
    have ef:Yb x=(Xg x,0):=by rw [Yb,if_neg e]
    rw [ef]
    refine ⟨⟨by omega,by omega⟩,qB (fun z=>?_) fun z=>?_⟩
    · rw [Zg,if_pos c,if_neg e,if_neg (Qi.1 z)];rfl
    have z:=qQ.1 z
    obtain ⟨s,t,hs,ht⟩:=bothTr_right (fltD_p x) c.2.1 (by omega) z
    obtain ⟨oz,lz⟩:=flt_z e c.2.1 c.2.2 z
    have ss:=QZ hs.r
    have st:=QZ ht.r
    have zm:(zM (Xg x) p).1.2.lo.m≠0∧(zM (Xg x) p).1.2.hi.m≠0:=by
      rcases oz with o | o
      · exact ⟨rv_ne (by grind),rv_ne (by grind)⟩
      · exact ⟨rv_ne (by grind),rv_ne (by grind)⟩
    have sd:=divV_sm (p:=p+24) hs.p ht.p ss st (by omega) (by omega)
    refine qB (fun f1=>⟨⟨by omega,by omega⟩,⟨st.mono (by omega),by omega,by omega⟩,?_⟩) fun f1=>qB (fun f2=>⟨⟨by omega,by omega⟩,⟨ss.mono (by omega),st.mono (by omega),zm.1,zm.2,by omega,by omega⟩,⟨by omega,by omega⟩,⟨sd.mono (by omega),by omega,by omega⟩,?_⟩) fun f2=>⟨⟨by omega,by omega⟩,⟨ss.mono (by omega),by omega,by omega⟩,?_⟩
    · rw [Zg,if_pos c,if_neg e,if_pos z,if_pos (zX.1 f1)];rfl
    · rw [Zg,if_pos c,if_neg e,if_pos z,if_neg (qR.1 f1),if_pos (zX.1 f2)];rfl
    · rw [Zg,if_pos c,if_neg e,if_pos z,if_neg (qR.1 f1),if_neg (qR.1 f2)];rfl⟩
theorem encl_junk{w:World}(p:Int)(hT:Tab w) :
    Calls Tryz.prog 10 #[.int .u8 15,.int .u64 4607182418800017408,.int .i64 p] w fun e w'=>∃ a k,e = .returned (.tuple #[a,.int .i64 k])∧IvJ w.heap.size w' a∧Below w.heap.size w w':=by
  have hr:RepSs (Cn w) noBox w [.int .u8 15,.int .u64 4607182418800017408,.int .i64 p] [.one (.int .u8 15),.one (.int .u64 4607182418800017408),.one (.int .i64 p)]:=⟨Rep.int _ _,Rep.int _ _,Rep.int _ _,trivial⟩
  have hw:zR 4607182418800017408:=⟨by decide,by decide⟩
  refine (rEpN_ok.run (Cn w) w _ _ rfl (fun g h=>h.elim) hT hr hw).mono ?_
  rintro e w' ⟨v,rfl,hv,hb⟩
  obtain ⟨vs,rfl,hl⟩:=hv
  match vs,hl with
  | [a,k],⟨h1,h3,_⟩ =>
    obtain rfl:=YE h3
    exact ⟨a,_,rfl,rep_ivJ h1,hb⟩
noncomputable def sndC:Code→Code
  | .seq _ y=>y
  | c=>c
noncomputable def bodyC (fn:Func):Code:=match fn.body with
  | some c=>c
  | none=>.skip
noncomputable def ownTail:Code:=sndC (sndC (sndC (sndC (sndC (sndC (bodyC Tryz.f9))))))
def sOw12:List (FuncId×qU):=[(43,nNorm),(42,nSame),(8,qF [.d,.i .i64] fun (_:Dx) (_:Int)=>(none,bT true)),(3,qF [.i .u8,.i .u64,.i .i64] fun (_ x _:Int)=>(some (zR x),bT true))]
def ownSt(x:Dx)(p:Int):Sg:=⟨[(1,iT p),(2,.sv (.one (.ref (dyL false x)))),(5,.sv (.one (.ref (dyL false x))))],[],0⟩
theorem own12_vc(x:Dx)(p:Int)(Q:Tv→Prop):exec ⟨tysR,sOw12⟩ 77 0 ownTail (fun _=>none) (ownSt x p) (finish ⟨tysR,sOw12⟩ Tryz.f9.results.toList Q)=(br (x.neg == x.neg) (br (eqI x.e x.e) (br (decide (ws (val x.xs)=ws (val x.xs))) (zR 4607182418800017408∧true=true∧Q (bT true)) (true=true∧Q (bT false))) (true=true∧Q (bT false))) (true=true∧Q (bT false))):=by kernel_rfl
theorem exec_tail{P:Program}{E:Env}(hE:EnvOk P E)(hm:P.follows .mixedOrders=true){fn:Func}{c:Code}{s:Sg}{Q:Tv→Prop}(h:exec E fn.ntmps 0 c (fun _=>none) s (finish E fn.results.toList Q))
    {C:Base} {w0 w:World} {a:Act} {A:Nat→Option Nat} (hT:TabB C w0) (hc:Cfg s.get (fun b=>b<s.nb) C fn.ntmps w0 a w A) :
    c.wp P (bodyPost P fn fun e w'=>∃ v t,e = .returned v∧Q t∧RepT C noBox w' v t∧Below C.n w0 w') a w:=by
  refine exec_ok hE hT hm c h hc ?_
  intro e s' a' w' A' hk hc'
  have fin:(resL E.T fn.results.toList fun l=>valT (toTv l)).go s'.get [] (fun e _=>andP e.pre (Q e.dst))→a'.defers = []∧∃ v,(results fn a'.tmps).run P w' = .ok v w'∧∃ v' t,Ending.returned v = .returned v'∧Q t∧RepT C noBox w' v' t∧Below C.n w0 w':=fun hk=>by
    rw [RM.go_eq] at hk
    have hok:((resL E.T fn.results.toList fun l=>valT (toTv l)).ev s'.get).ok∧Q ((resL E.T fn.results.toList fun l=>valT (toTv l)).ev s'.get).dst:=by
      unfold Eff.ok
      cases hp:((resL E.T fn.results.toList fun l=>valT (toTv l)).ev s'.get).pre with
      | none=>rw [hp] at hk;exact ⟨trivial,hk⟩
      | some p=>rw [hp] at hk;exact hk
    obtain ⟨v,h1,h2⟩:=finish_ok hE hc' (fn:=fn) rfl hok.1
    exact ⟨hc'.defers,v,h1,v,_,rfl,hok.2,h2,hc'.below⟩
  cases e with
  | norm=>exact fin hk
  | ret=>exact fin hk
  | exit i=>exact hk.elim
theorem sOw12_ok:SpecsOk Tryz.prog sOw12:=⟨nNorm_ok,nSame_ok,lBt17_ok,lEn17_ok,trivial⟩
theorem own_run(x:Dx)(p:Int):exec ⟨tysR,sOw12⟩ 77 0 ownTail (fun _=>none) (ownSt x p) (finish ⟨tysR,sOw12⟩ Tryz.f9.results.toList (fun t=>t=bT true)):=by
  rw [own12_vc]
  have e1:(x.neg == x.neg)=true:=by simp
  have e2:eqI x.e x.e=true:=by simp [eqI]
  have e3:decide (ws (val x.xs)=ws (val x.xs))=true:=by simp
  rw [e1,e2,e3]
  exact ⟨⟨by decide,by decide⟩,rfl,rfl⟩
theorem own_end{w:World}{a:Act}{x:Dx}{p:Int}{g2 g5:Nat}{s s':Value}(hT:Tab w)(hd:a.defers = [])(hsz:a.tmps.size=77)(h1:a.tmps[1]?=some (.int .i64 p))(h2:a.tmps[2]?=some (.pointer (some ⟨g2,0,none⟩)))(h5:a.tmps[5]?=some (.pointer (some ⟨g5,0,none⟩)))
    (b2:Box3 w g2 0 (.bool x.neg) s (.int .i64 x.e)) (b5:Box3 w g5 0 (.bool x.neg) s' (.int .i64 x.e)) (n2:NatAt 0 w s x.xs) (n5:NatAt 0 w s' x.xs) :
    ownTail.wp Tryz.prog (bodyPost Tryz.prog Tryz.f9 fun e w'=>e = .returned (.bool true)∧Below w.heap.size w w') a w:=by
  have rp:∀ {g:Nat} {t:Value},Box3 w g 0 (.bool x.neg) t (.int .i64 x.e)→NatAt 0 w t x.xs→Rep (Cn w) noBox w (.pointer (some ⟨g,0,none⟩)) (.ref (dyL false x)):=fun {g t} hb hn =>
    Rep.mkRef (vs:=[.bool x.neg,t,.int .i64 x.e]) hb.lt (by simp) ⟨Rep.bool _,.words (hn.isIn.mono fun g _ _=>⟨⟨by simp,fun h=>h.elim⟩,by simp⟩),Rep.int _ _,trivial⟩ (fun i v hi=>by
      obtain ⟨⟨c1,c2,c3⟩,_⟩:=hb
      match i,hi with
      | 0,hi=>cases hi;exact c1
      | 1,hi=>cases hi;exact c2
      | 2,hi=>cases hi;exact c3)
  have hc:Cfg (ownSt x p).get (fun b=>b<(ownSt x p).nb) (Cn w) 77 w a w noBox:=by
    refine ⟨fun i t ht=>?_,fun b o t ht=>?_,fun b g hb=>by simp at hb,fun b b' g hb=>by simp at hb,hd,hsz,.refl _ _,Nat.le_refl _,fun g hg=>hg.elim,fun b g hb=>by simp at hb,fun g _ _=>rfl,fun h=>absurd h (Nat.lt_irrefl _),fun b o t hb=>by simp at hb,fun o _ _=>⟨rfl,rfl⟩⟩
    · have ht:tGet [(1,iT p),(2,.sv (.one (.ref (dyL false x)))),(5,.sv (.one (.ref (dyL false x))))] i=some t:=ht
      simp only [tGet] at ht
      split at ht
      · rename_i e;obtain rfl:=Nat.eq_of_beq_eq_true e;cases ht;exact ⟨_,h1,Rep.int _ _⟩
      · split at ht
        · rename_i e;obtain rfl:=Nat.eq_of_beq_eq_true e;cases ht;exact ⟨_,h2,rp b2 n2⟩
        · split at ht
          · rename_i e;obtain rfl:=Nat.eq_of_beq_eq_true e;cases ht;exact ⟨_,h5,rp b5 n5⟩
          · cases ht
    · have ht:(match Xh [] b o with | some x=>some (Tv.sv (.one x)) | none=>none)=some t:=ht
      simp [Xh] at ht
  have:=exec_tail (fn:=Tryz.f9) (qO Yh sOw12_ok) mixed (own_run x p) (TabB.of rfl hT) hc
  refine wp_mono this ?_
  intro e a' w' hq
  have key:∀ (e:Ending) (w':World),(∃ v t,e=Ending.returned v∧t=bT true∧RepT (Cn w) noBox w' v t∧Below (Cn w).n w w')→e = .returned (.bool true)∧Below w.heap.size w w':=by
    rintro e w' ⟨v,t,rfl,rfl,hr,hb⟩
    obtain rfl:=repS_bool hr
    exact ⟨rfl,hb⟩
  cases e with
  | normal=>obtain ⟨h1,v,h2,h3⟩:=hq;exact ⟨h1,v,h2,key _ _ h3⟩
  | ret=>obtain ⟨h1,v,h2,h3⟩:=hq;exact ⟨h1,v,h2,key _ _ h3⟩
  | panic c=>obtain ⟨h1,h3⟩:=hq;exact ⟨h1,key _ _ h3⟩
  | outgrown=>exact key _ _ hq
  | exit i=>exact hq
  | _=>exact hq
theorem JunkAt.mono{m n0:Nat}{w:World}{v:Value}(h:JunkAt n0 w v)(k:m≤n0):JunkAt m w v:=by
  obtain ⟨A,n,c,e,h1,h2,h3,h4⟩:=h
  exact ⟨A,n,c,e,h1,h2,h3,fun hp=>by obtain ⟨g,o,e,hg,r⟩:=h4 hp;exact ⟨g,o,e,Nat.le_trans k hg,r⟩⟩
def Box6(w:World)(g:Nat)(a:Bool)(s:Value)(e:Int)(b:Bool)(t:Value)(f:Int):Prop :=
  w.cell? ⟨g,0,none⟩=some (.bool a)∧w.cell? ⟨g,1,none⟩=some s∧w.cell? ⟨g,2,none⟩=some (.int .i64 e)∧w.cell? ⟨g,3,none⟩=some (.bool b)∧w.cell? ⟨g,4,none⟩=some t∧w.cell? ⟨g,5,none⟩=some (.int .i64 f)
theorem Box6.below{w w':World}{g:Nat}{a b:Bool}{s t:Value}{e f:Int}(h:Box6 w g a s e b t f)(hb:Below w.heap.size w w'):Box6 w' g a s e b t f:=by
  have hl:=World.block_lt_of_cell? w _ h.1
  have q:=(bcell hb).1
  obtain ⟨h1,h2,h3,h4,h5,h6⟩:=h
  exact ⟨(q _ _ hl).trans h1,(q _ _ hl).trans h2,(q _ _ hl).trans h3,(q _ _ hl).trans h4,(q _ _ hl).trans h5,(q _ _ hl).trans h6⟩
theorem Box6.new(w:World)(a b:Bool)(s t:Value)(e f:Int)(ty:TypeId):Box6 (w.alloc (.cells #[.bool a,s,.int .i64 e,.bool b,t,.int .i64 f] ty)) w.heap.size a s e b t f:=by
  refine ⟨?_,?_,?_,?_,?_,?_⟩<;>go_simp
set_option maxHeartbeats 1600000 in
set_option maxRecDepth 100000 in
theorem own_walk{w:World}{s:Value}{neg:Bool}{xs:List Int}{e p:Int}(hT:Tab w)(h:NatAt 0 w s xs) :
    Calls Tryz.prog 9 #[.agg #[.bool neg,s,.int .i64 e],.int .i64 p] w (fun r w'=>r = .returned (.bool true)∧Below w.heap.size w w'):=by
  have HT:=Lib.hid hT;have HN:=Lib.hid h
  clear hT h
  go_enter Tryz.func9,Tryz.ntmps9
  generalize hT12:Code.seq (Code.region 12 _ true) Code.ret=T12
  have H12:=Lib.hid hT12
  clear hT12
  go_wp2_with fail
  refine (lives_calls (HT.out.below (qZ _ _))).mono ?_
  rintro r w1 ⟨rfl,hb1⟩
  have B2:=(Box3.new w (.bool neg) s (.int .i64 e) 27).below hb1
  have HB2:=Lib.hid B2
  have T1:=Lib.hid ((HT.out.below (qZ w (.cells #[.bool neg,s,.int .i64 e] 27))).below hb1)
  have N1:=Lib.hid ((HN.out.below (qZ w (.cells #[.bool neg,s,.int .i64 e] 27))).below hb1)
  have W1:=Lib.hid (zI (qZ w (.cells #[.bool neg,s,.int .i64 e] 27)) hb1)
  obtain ⟨⟨b1,b2,b3⟩,b4,b5,b6⟩:=B2
  simp only [Nat.zero_add] at b1 b2 b3 b4 b5 b6
  clear hb1
  go_wp2_with fail
  refine (copy4_calls (d:=⟨neg,xs,e⟩) N1.out).mono ?_
  rintro r w2 ⟨s',rfl,hn,hb2⟩
  simp only at hn
  obtain ⟨A',L',c',rfl,hL',-,-⟩:=hn.open
  have N2:=Lib.hid hn
  have HB22:=Lib.hid (HB2.out.below hb2)
  have T2:=Lib.hid (T1.out.below hb2)
  have W2:=Lib.hid (zI W1.out hb2)
  have X2:=Lib.hid (N1.out.below hb2)
  clear b1 b2 b3 b4 b5 b6 hn hb2
  go_wp2_with fail
  obtain ⟨Z,hZ⟩:∃ Z,w2.alloc (.cells #[.bool neg,.slice A' L' c',.int .i64 e] 27)=Z:=⟨_,rfl⟩
  have hbZ:Below w2.heap.size w2 Z:=hZ ▸ qZ _ _
  have HB5:=Lib.hid (hZ ▸ Box3.new w2 (.bool neg) (.slice A' L' c') (.int .i64 e) 27:Box3 Z w2.heap.size 0 _ _ _)
  have zs:Z.heap.size=w2.heap.size+1:=by rw [←hZ];simp
  have HZ2:=Lib.hid (HB22.out.below hbZ)
  have TZ:=Lib.hid (T2.out.below hbZ)
  have WZ:=Lib.hid (zI W2.out hbZ)
  have NZ:=Lib.hid (N2.out.below hbZ)
  have XZ:=Lib.hid (X2.out.below hbZ)
  rw [hZ]
  clear hZ hbZ
  refine (both_junk (d:=⟨neg,xs,e⟩) p TZ.out NZ.out.zero).mono ?_
  rintro r w3 ⟨_,_,k3,rfl,⟨a1,sa,a2,a3,ta,a4,rfl,ja,ka⟩,⟨d1,sd,d2,d3,td,d4,rfl,jd,kd⟩,hb3⟩
  have JA:=Lib.hid ja;have KA:=Lib.hid ka;have JD:=Lib.hid jd;have KD:=Lib.hid kd
  obtain ⟨A1,n1,c1,rfl,-⟩:=ja
  obtain ⟨A2,n2,c2,rfl,-⟩:=ka
  obtain ⟨A3,n3,c3,rfl,-⟩:=jd
  obtain ⟨A4,n4,c4,rfl,-⟩:=kd
  have H32:=Lib.hid (HZ2.out.below hb3)
  have H35:=Lib.hid (HB5.out.below hb3)
  have T3:=Lib.hid (TZ.out.below hb3)
  have W3:=Lib.hid (zI WZ.out hb3)
  have N3:=Lib.hid (NZ.out.below hb3)
  have X3:=Lib.hid (XZ.out.below hb3)
  have M3:=Lib.hid hb3.size
  have E3:=Lib.hid hb3
  clear hb3
  go_wp2_with fail
  obtain ⟨Y0,hY0⟩:∃ Y,w3.alloc (.cells #[.bool a1,.slice A1 n1 c1,.int .i64 a2,.bool a3,.slice A2 n2 c2,.int .i64 a4] 29)=Y:=⟨_,rfl⟩
  obtain ⟨Y,hY⟩:∃ Y,Y0.alloc (.cells #[.bool d1,.slice A3 n3 c3,.int .i64 d2,.bool d3,.slice A4 n4 c4,.int .i64 d4] 29)=Y:=⟨_,rfl⟩
  have y0s:Y0.heap.size=w3.heap.size+1:=by rw [←hY0];simp
  have ys:Y.heap.size=w3.heap.size+2:=by rw [←hY];simp [y0s]
  have b0:Below w3.heap.size w3 Y0:=hY0 ▸ qZ _ _
  have b1:Below Y0.heap.size Y0 Y:=hY ▸ qZ _ _
  have hbY:Below w3.heap.size w3 Y:=zI b0 b1
  have K6:Box6 Y w3.heap.size a1 (.slice A1 n1 c1) a2 a3 (.slice A2 n2 c2) a4:=(hY0 ▸ Box6.new w3 a1 a3 (.slice A1 n1 c1) (.slice A2 n2 c2) a2 a4 29:Box6 Y0 _ _ _ _ _ _ _).below b1
  have K7:Box6 Y (w3.heap.size+1) d1 (.slice A3 n3 c3) d2 d3 (.slice A4 n4 c4) d4:=y0s ▸ (hY ▸ Box6.new Y0 d1 d3 (.slice A3 n3 c3) (.slice A4 n4 c4) d2 d4 29:Box6 Y _ _ _ _ _ _ _)
  rw [hY0,hY]
  refine (encl_junk p ((T3.out.below hbY))).mono ?_
  rintro r w4 ⟨_,k4,rfl,⟨f1,sf,f2,f3,tf,f4,rfl,jf,kf⟩,hb4⟩
  have JE:=Lib.hid jf;have KE:=Lib.hid kf
  obtain ⟨A5,n5,c5,rfl,-⟩:=jf
  obtain ⟨A6,n6,c6,rfl,-⟩:=kf
  have hb34:Below w3.heap.size w3 w4:=zI hbY hb4
  have G34:=Lib.hid hb34
  have MY:=Lib.hid (show Z.heap.size≤Y.heap.size by have:=M3.out;omega)
  have sz4:w3.heap.size+2≤w4.heap.size:=by have:=hb4.size;omega
  have q6:∀ o:Obj,Box6 (w4.alloc o) w3.heap.size a1 (.slice A1 n1 c1) a2 a3 (.slice A2 n2 c2) a4:=fun o=>(K6.below hb4).below (qZ _ _)
  have q7:∀ o:Obj,Box6 (w4.alloc o) (w3.heap.size+1) d1 (.slice A3 n3 c3) d2 d3 (.slice A4 n4 c4) d4:=fun o=>(K7.below hb4).below (qZ _ _)
  have u0:=fun o=>(q6 o).1
  have u1:=fun o=>(q6 o).2.1
  have u2:=fun o=>(q6 o).2.2.1
  have u3:=fun o=>(q6 o).2.2.2.1
  have u4:=fun o=>(q6 o).2.2.2.2.1
  have u5:=fun o=>(q6 o).2.2.2.2.2
  have v0:=fun o=>(q7 o).1
  have v1:=fun o=>(q7 o).2.1
  have v2:=fun o=>(q7 o).2.2.1
  have v3:=fun o=>(q7 o).2.2.2.1
  have v4:=fun o=>(q7 o).2.2.2.2.1
  have v5:=fun o=>(q7 o).2.2.2.2.2
  clear q6 q7 K6 K7 hb34 hb4 hbY b0 b1 hY hY0 y0s ys
  go_wp2_with fail
  obtain ⟨V,hV⟩:∃ V,(w4.alloc (.cells #[.bool f1,.slice A5 n5 c5,.int .i64 f2,.bool f3,.slice A6 n6 c6,.int .i64 f4] 29)).alloc (.cells #[.bool a1,.slice A1 n1 c1,.int .i64 a2,.bool a3,.slice A2 n2 c2,.int .i64 a4,.bool d1,.slice A3 n3 c3,.int .i64 d2,.bool d3,.slice A4 n4 c4,.int .i64 d4,.bool f1,.slice A5 n5 c5,.int .i64 f2,.bool f3,.slice A6 n6 c6,.int .i64 f4] 29)=V:=⟨_,rfl⟩
  have hb4V:Below w4.heap.size w4 V:=hV ▸ below_plus (qZ _ _) _
  have row:V.heap[w4.heap.size+1]?=some (.cells #[.bool a1,.slice A1 n1 c1,.int .i64 a2,.bool a3,.slice A2 n2 c2,.int .i64 a4,.bool d1,.slice A3 n3 c3,.int .i64 d2,.bool d3,.slice A4 n4 c4,.int .i64 d4,.bool f1,.slice A5 n5 c5,.int .i64 f2,.bool f3,.slice A6 n6 c6,.int .i64 f4] 29):=by
    rw [←hV,←size_alloc w4 (.cells #[.bool f1,.slice A5 n5 c5,.int .i64 f2,.bool f3,.slice A6 n6 c6,.int .i64 f4] 29)]
    exact heap_alloc_new _ _
  have SC:∀ (j:Nat) (v:Value),#[(.bool a1:Value),.slice A1 n1 c1,.int .i64 a2,.bool a3,.slice A2 n2 c2,.int .i64 a4,.bool d1,.slice A3 n3 c3,.int .i64 d2,.bool d3,.slice A4 n4 c4,.int .i64 d4,.bool f1,.slice A5 n5 c5,.int .i64 f2,.bool f3,.slice A6 n6 c6,.int .i64 f4][j]?=some v→(∀ y,v≠.int .u64 y)→∀ {wr:World},Jk Z.heap.size V wr→wr.cell? ⟨w4.heap.size+1,j,none⟩=some v:=fun j v h hn wr hj =>
    (hj.keep _ _ _ ((cell_of_row V _ j _ _ _ row).trans h)).resolve_right (fun h=>by obtain ⟨⟨y,e⟩,_⟩:=h;exact hn y e)
  have ZV:=Lib.hid (show Z.heap.size≤V.heap.size by have:=M3.out;have:=hb4V.size;omega)
  have T3V:=Lib.hid (Jk.grow (n0:=Z.heap.size) (zI G34.out hb4V) M3.out)
  have T4V:=Lib.hid (Jk.grow (n0:=Z.heap.size) hb4V (by have:=M3.out;omega))
  have B3V:=Lib.hid (zI G34.out hb4V)
  rw [hV]
  have JE':=JE;have KE':=KE
  replace JE:=Lib.hid (JE'.out.mono MY.out);replace KE:=Lib.hid (KE'.out.mono MY.out)
  clear hV row hb4V JE' KE' u0 u1 u2 u3 u4 u5 v0 v1 v2 v3 v4 v5
  go_loopw [34] (fun i wr=>∃ (k:Nat),k≤3∧i = .int .i64 k∧Jk Z.heap.size V wr) (fun i _=>3-(intOf i).toNat)
  case atStart=>exact ⟨0,by omega,rfl,Jk.refl _ _⟩
  case round =>
    obtain ⟨k,hk,rfl,hj⟩:=hrel
    have HJ:=Lib.hid hj
    clear hj
    by_cases hlt:k<3
    · have hdec:decide ((k:Int)<3)=true:=by simp;omega
      have cases:k=0∨k=1∨k=2:=by omega
      rcases cases with rfl | rfl | rfl
      · -- round 0
        have s0:wr.cell? ⟨w4.heap.size+1,0,none⟩=some (.bool a1):=SC 0 _ rfl (by simp) HJ.out
        have s1:wr.cell? ⟨w4.heap.size+1,1,none⟩=some (.slice A1 n1 c1):=SC 1 _ rfl (by simp) HJ.out
        have s2:wr.cell? ⟨w4.heap.size+1,2,none⟩=some (.int .i64 a2):=SC 2 _ rfl (by simp) HJ.out
        have s3:wr.cell? ⟨w4.heap.size+1,3,none⟩=some (.bool a3):=SC 3 _ rfl (by simp) HJ.out
        have s4:wr.cell? ⟨w4.heap.size+1,4,none⟩=some (.slice A2 n2 c2):=SC 4 _ rfl (by simp) HJ.out
        have s5:wr.cell? ⟨w4.heap.size+1,5,none⟩=some (.int .i64 a4):=SC 5 _ rfl (by simp) HJ.out
        obtain ⟨U,hU⟩:∃ U,wr.alloc (.cells #[.bool a1,.slice A1 n1 c1,.int .i64 a2,.bool a3,.slice A2 n2 c2,.int .i64 a4] 29)=U:=⟨_,rfl⟩
        have hjU:Jk Z.heap.size wr U:=Jk.grow (hU ▸ qZ _ _) (Nat.le_trans ZV.out HJ.out.size)
        have KU:Box6 U wr.heap.size a1 (.slice A1 n1 c1) a2 a3 (.slice A2 n2 c2) a4:=hU ▸ Box6.new wr a1 a3 (.slice A1 n1 c1) (.slice A2 n2 c2) a2 a4 29
        have PU:=Lib.hid hjU;have QU:=Lib.hid KU
        have JU:=Lib.hid (((JA.out.jk T3V.out).jk HJ.out).jk hjU);have LU:=Lib.hid (((KA.out.jk T3V.out).jk HJ.out).jk hjU)
        have k1:=KU.2.1
        clear hjU KU
        go_wp2_with fail
        clear hU k1
        refine (YX (n0:=Z.heap.size) JU.out).mono ?_
        rintro r w7 ⟨rfl,hj7⟩
        have R4:w7.cell? ⟨wr.heap.size,4,none⟩=some (.slice A2 n2 c2):=(hj7.keep _ _ _ QU.out.2.2.2.2.1).resolve_right (fun h=>by obtain ⟨⟨y,e⟩,_⟩:=h;cases e)
        have P7:=Lib.hid hj7
        clear hj7
        go_wp2_with fail
        refine (YX (n0:=Z.heap.size) (LU.out.jk P7.out)).mono ?_
        rintro r w8 ⟨rfl,hj8⟩
        have P8:=Lib.hid hj8
        clear hj8
        go_wp2
        go_roundw
        case rel=>exact ⟨1,by omega,rfl,((HJ.out.trans PU.out).trans P7.out).trans P8.out⟩
        case measure=>simp [intOf]
      · -- round 1
        have s0:wr.cell? ⟨w4.heap.size+1,6,none⟩=some (.bool d1):=SC 6 _ rfl (by simp) HJ.out
        have s1:wr.cell? ⟨w4.heap.size+1,7,none⟩=some (.slice A3 n3 c3):=SC 7 _ rfl (by simp) HJ.out
        have s2:wr.cell? ⟨w4.heap.size+1,8,none⟩=some (.int .i64 d2):=SC 8 _ rfl (by simp) HJ.out
        have s3:wr.cell? ⟨w4.heap.size+1,9,none⟩=some (.bool d3):=SC 9 _ rfl (by simp) HJ.out
        have s4:wr.cell? ⟨w4.heap.size+1,10,none⟩=some (.slice A4 n4 c4):=SC 10 _ rfl (by simp) HJ.out
        have s5:wr.cell? ⟨w4.heap.size+1,11,none⟩=some (.int .i64 d4):=SC 11 _ rfl (by simp) HJ.out
        obtain ⟨U,hU⟩:∃ U,wr.alloc (.cells #[.bool d1,.slice A3 n3 c3,.int .i64 d2,.bool d3,.slice A4 n4 c4,.int .i64 d4] 29)=U:=⟨_,rfl⟩
        have hjU:Jk Z.heap.size wr U:=Jk.grow (hU ▸ qZ _ _) (Nat.le_trans ZV.out HJ.out.size)
        have KU:Box6 U wr.heap.size d1 (.slice A3 n3 c3) d2 d3 (.slice A4 n4 c4) d4:=hU ▸ Box6.new wr d1 d3 (.slice A3 n3 c3) (.slice A4 n4 c4) d2 d4 29
        have PU:=Lib.hid hjU;have QU:=Lib.hid KU
        have JU:=Lib.hid (((JD.out.jk T3V.out).jk HJ.out).jk hjU);have LU:=Lib.hid (((KD.out.jk T3V.out).jk HJ.out).jk hjU)
        have k1:=KU.2.1
        clear hjU KU
        go_wp2_with fail
        clear hU k1
        refine (YX (n0:=Z.heap.size) JU.out).mono ?_
        rintro r w7 ⟨rfl,hj7⟩
        have R4:w7.cell? ⟨wr.heap.size,4,none⟩=some (.slice A4 n4 c4):=(hj7.keep _ _ _ QU.out.2.2.2.2.1).resolve_right (fun h=>by obtain ⟨⟨y,e⟩,_⟩:=h;cases e)
        have P7:=Lib.hid hj7
        clear hj7
        go_wp2_with fail
        refine (YX (n0:=Z.heap.size) (LU.out.jk P7.out)).mono ?_
        rintro r w8 ⟨rfl,hj8⟩
        have P8:=Lib.hid hj8
        clear hj8
        go_wp2
        go_roundw
        case rel=>exact ⟨2,by omega,rfl,((HJ.out.trans PU.out).trans P7.out).trans P8.out⟩
        case measure=>simp [intOf]
      · -- round 2
        have s0:wr.cell? ⟨w4.heap.size+1,12,none⟩=some (.bool f1):=SC 12 _ rfl (by simp) HJ.out
        have s1:wr.cell? ⟨w4.heap.size+1,13,none⟩=some (.slice A5 n5 c5):=SC 13 _ rfl (by simp) HJ.out
        have s2:wr.cell? ⟨w4.heap.size+1,14,none⟩=some (.int .i64 f2):=SC 14 _ rfl (by simp) HJ.out
        have s3:wr.cell? ⟨w4.heap.size+1,15,none⟩=some (.bool f3):=SC 15 _ rfl (by simp) HJ.out
        have s4:wr.cell? ⟨w4.heap.size+1,16,none⟩=some (.slice A6 n6 c6):=SC 16 _ rfl (by simp) HJ.out
        have s5:wr.cell? ⟨w4.heap.size+1,17,none⟩=some (.int .i64 f4):=SC 17 _ rfl (by simp) HJ.out
        obtain ⟨U,hU⟩:∃ U,wr.alloc (.cells #[.bool f1,.slice A5 n5 c5,.int .i64 f2,.bool f3,.slice A6 n6 c6,.int .i64 f4] 29)=U:=⟨_,rfl⟩
        have hjU:Jk Z.heap.size wr U:=Jk.grow (hU ▸ qZ _ _) (Nat.le_trans ZV.out HJ.out.size)
        have KU:Box6 U wr.heap.size f1 (.slice A5 n5 c5) f2 f3 (.slice A6 n6 c6) f4:=hU ▸ Box6.new wr f1 f3 (.slice A5 n5 c5) (.slice A6 n6 c6) f2 f4 29
        have PU:=Lib.hid hjU;have QU:=Lib.hid KU
        have JU:=Lib.hid (((JE.out.jk T4V.out).jk HJ.out).jk hjU);have LU:=Lib.hid (((KE.out.jk T4V.out).jk HJ.out).jk hjU)
        have k1:=KU.2.1
        clear hjU KU
        go_wp2_with fail
        clear hU k1
        refine (YX (n0:=Z.heap.size) JU.out).mono ?_
        rintro r w7 ⟨rfl,hj7⟩
        have R4:w7.cell? ⟨wr.heap.size,4,none⟩=some (.slice A6 n6 c6):=(hj7.keep _ _ _ QU.out.2.2.2.2.1).resolve_right (fun h=>by obtain ⟨⟨y,e⟩,_⟩:=h;cases e)
        have P7:=Lib.hid hj7
        clear hj7
        go_wp2_with fail
        refine (YX (n0:=Z.heap.size) (LU.out.jk P7.out)).mono ?_
        rintro r w8 ⟨rfl,hj8⟩
        have P8:=Lib.hid hj8
        clear hj8
        go_wp2
        go_roundw
        case rel=>exact ⟨3,by omega,rfl,((HJ.out.trans PU.out).trans P7.out).trans P8.out⟩
        case measure=>simp [intOf]
    · obtain rfl:k=3:=by omega
      go_wp2_with fail
      have hZr:Below Z.heap.size Z wr:=E3.out.trans (T3V.out.trans HJ.out).below
      obtain rfl:T12=ownTail:=H12.out.symm
      clear H12
      refine wp_mono (own_end (x:=⟨neg,xs,e⟩) (p:=p) (TZ.out.below hZr) rfl rfl rfl rfl rfl (HZ2.out.below hZr) (HB5.out.below hZr) (XZ.out.below hZr) (NZ.out.below hZr).zero) ?_
      intro e a' w' hq
      have key:∀ (e:Ending) (w':World),(e=Ending.returned (.bool true)∧Below wr.heap.size wr w')→e = .returned (.bool true)∧Below w.heap.size w w':=by
        rintro e w' ⟨rfl,hb⟩
        exact ⟨rfl,zI (zI WZ.out hZr) hb⟩
      cases e with
      | normal=>obtain ⟨h1,v,h2,h3⟩:=hq;exact ⟨h1,v,h2,key _ _ h3⟩
      | ret=>obtain ⟨h1,v,h2,h3⟩:=hq;exact ⟨h1,v,h2,key _ _ h3⟩
      | panic c=>obtain ⟨h1,h3⟩:=hq;exact ⟨h1,key _ _ h3⟩
      | outgrown=>exact key _ _ hq
      | exit i=>exact hq
      | _=>exact hq
def lOw17:qU:=qF [.d,.i .i64] fun (_:Dx) (_:Int)=>(none,bT true)
theorem lOw17_ok:SpecOk Tryz.prog 9 lOw17 :=
  Qq Tryz.func9 rfl (by decide) fun C w hC hX hT=>fun (d:Dx) _ v h (p:Int) _ v' h' _=>by
    obtain ⟨vs,rfl,hl⟩:∃ vs,v = .agg vs.toArray∧RepL C noBox w vs (dyL false d):=by
      obtain ⟨vs,h1,h2⟩:=h;exact ⟨vs,h1,h2⟩
    obtain rfl:=YE h'
    match vs,hl with
    | [a,b,c],⟨h1,h2,h3,_⟩ =>
      obtain rfl:=YC h1
      obtain rfl:=ZH h3
      refine (own_walk hT (zL h2)).mono ?_
      rintro e w' ⟨rfl,hb⟩
      exact ⟨_,rfl,Rep.bool _,hb⟩
end Go.Proofs.YtenkjloaghmjfaaGreatDoor
namespace Go.Proofs.YtenkjloaghmjfaaGreatDoor
open Go.RowKit Go.ChangeShapes Go.WideShapes Go.Deep
set_option maxRecDepth 100000
def C0(W:World):Base:=⟨W.heap.size,fun _=>False,0⟩
section
variable {H:Type} {enc:TypeId×Value→H} {W:World} {base fuel:Nat} {s:Value} {x:DataW H×List MemPlace}
def PlOk(W:World)(p:MemPlace):Prop:=p.block<W.heap.size∧∀ b o,p = .cell b o→W.frozen? ⟨b,o,none⟩=false
theorem open_words(hv:Cell.okWide Tryz.prog W .any base 25 s)(h:DataW.trod enc Tryz.prog W 0 (fun _=>true) true fuel 25 [s]=some x)
    (hw:(x.1.weights Tryz.prog 25).all (·≤reachBytes)=true) (hlt:∀ p∈x.2,PlOk W p):∃ xs,Rep (C0 W) noBox W s (.words false xs):=by
  rcases open_ints Tryz.underlying25 Tryz.underlying23 (by kernel_rfl) h with ⟨e,rfl⟩|⟨a,len,cap,zs,e,_,hl,hm,hz,rfl,hc,hwf⟩
  · cases e
    exact ⟨[],.words ⟨none,0,rfl,Nat.le_refl _,⟨by omega,by simp⟩,Words.nil,fun _=>rfl,fun h=>absurd h (by simp)⟩⟩
  · cases e
    rw [if_pos rfl] at hz
    obtain ⟨_,_,_,hspot,_⟩:len≤cap∧(cap:Int)≤IntKind.i64.max∧W.has Tryz.prog .any base a 23 cap:=by
      simpa [Cell.okWide,Cell.ok,Tryz.underlying25] using hv
    obtain ⟨g,o,spot⟩:=a
    simp only at hspot;subst hspot
    have hb8:Tryz.prog.bytesOf 23=8:=by kernel_rfl
    have hwt:(len+(cap-len))*8≤reachBytes:=by
      simp only [DataW.weights,Tryz.underlying25,List.all_cons,Bool.and_eq_true,decide_eq_true_eq,lits,List.length_map,List.length_take,List.length_drop,hz,hb8] at hw
      have:=hw.1
      rwa [Nat.min_eq_left hl] at this
    have hr:reachBytes=140737488351232:=rfl
    rw [hr] at hwt
    have hwords:Words zs:=fun n hn=>by
      have:=hwf n hn
      simp only [Lit.wf,Bool.and_eq_true,decide_eq_true_eq] at this
      have h1:IntKind.u64.min=0:=rfl
      have h2:IntKind.u64.max=18446744073709551615:=rfl
      rw [h1,h2] at this
      exact ⟨by omega,by omega⟩
    have hlen:(zs.take len).length=len:=by rw [List.length_take];omega
    refine ⟨zs.take len,.words ⟨_,cap,by rw [hlen],by omega,⟨by simp [maxLen] at hm;omega,by omega⟩,hwords.take _,by simp,fun hp=>⟨g,o,rfl,⟨⟨by simp [noBox],fun hx=>hx.elim⟩,by simp⟩,?_,fun j hj=>?_⟩⟩⟩
    · exact World.block_lt_of_cell? W _ (hc 0 (by omega))
    · have hj:j<len:=by omega
      have:=hc j (by omega)
      rw [nth_take hj]
      rw [show (⟨g,o,none⟩:Addr).add j=⟨g,o+j,none⟩ from by simp [Addr.add]] at this
      exact ⟨this,(hlt (.cell g (o+j)) (by
        show _∈MemPlace.row ⟨g,o,none⟩ zs.length
        unfold MemPlace.row
        exact List.mem_map.2 ⟨j,List.mem_range.2 (by omega),rfl⟩)).2 g (o+j) rfl⟩
theorem open_dy{cs:List Value}(hok:∀ c,cs[1]?=some c→Cell.okWide Tryz.prog W .any base 25 c)(h:DataW.trod enc Tryz.prog W 0 (fun _=>true) true fuel 27 cs=some x)
    (hw:(x.1.weights Tryz.prog 27).all (·≤reachBytes)=true) (hlt:∀ p∈x.2,PlOk W p):∃ d:Dx,RepL (C0 W) noBox W cs (dyL false d):=by
  obtain ⟨y0,y1,y2,n,rfl,hl,h0,h1,h2⟩:=trod_struct3 Tryz.underlying27 h
  rw [show Tryz.prog.cellsOf 27=3 by kernel_rfl] at hl
  match cs,hl with
  | [c0,c1,c2],_ =>
    obtain ⟨b,e0,rfl⟩:=DataW.trod_bool Tryz.underlying4 h0
    obtain ⟨k,e2,rfl,hk⟩:=DataW.trod_int Tryz.underlying3 h2
    rw [show Tryz.prog.cellsOf 4=1 by kernel_rfl] at e0
    rw [show Tryz.prog.cellsOf 3=1 by kernel_rfl] at e2
    simp at e0 e2
    subst e0;subst e2
    simp only [show Tryz.prog.cellsOf 25=1 by kernel_rfl] at h1
    simp only [DataW.weights,Tryz.underlying27,DataW.weightsEach,List.map_cons,List.map_nil,List.all_append,Bool.and_eq_true] at hw
    obtain ⟨xs,hxs⟩:=open_words (hok c1 rfl) (by simpa using h1) hw.2.1 (fun p hp=>hlt p (by simp [hp]))
    exact ⟨⟨b,xs,k⟩,Rep.bool b,hxs,Rep.int _ k,trivial⟩
theorem arg_d{v:Value}{d:DataW H}{ps:List MemPlace}(hv:Value.okWide Tryz.prog W .any base 27 v)(h:DataW.Trod enc Tryz.prog W 0 (fun _=>true) true 27 v d ps)
    (hw:(d.weights Tryz.prog 27).all (·≤reachBytes)=true) (hlt:∀ p∈ps,PlOk W p):∃ x:Dx,RepS (C0 W) noBox W v (.agg (dyL false x)):=by
  simp only [Value.okWide,Tryz.underlying27] at hv
  obtain ⟨cs,rfl,hsz,ts,hts,_,hrow⟩:=hv
  rw [show Tryz.prog.cellTypes Tryz.prog.depth 27=some [4,25,3] by kernel_rfl] at hts
  cases hts
  obtain ⟨fuel,h⟩:=h
  obtain ⟨x,hx⟩:=open_dy (x:=(d,ps)) (base:=base) (fun c hc=>by
    obtain ⟨u,hu,hok⟩:=hrow 1 c (by rw [←Array.getElem?_toList];exact hc)
    cases hu;exact hok) h hw hlt
  exact ⟨x,cs.toList,rfl,hx⟩
theorem arg_v{v:Value}{d:DataW H}{ps:List MemPlace}(hv:Value.okWide Tryz.prog W .any base 29 v)(h:DataW.Trod enc Tryz.prog W 0 (fun _=>true) true 29 v d ps)
    (hw:(d.weights Tryz.prog 29).all (·≤reachBytes)=true) (hlt:∀ p∈ps,PlOk W p):∃ x:Vx,RepS (C0 W) noBox W v (.agg (ivL false x)):=by
  simp only [Value.okWide,Tryz.underlying29] at hv
  obtain ⟨cs,rfl,hsz,ts,hts,_,hrow⟩:=hv
  rw [show Tryz.prog.cellTypes Tryz.prog.depth 29=some [4,25,3,4,25,3] by kernel_rfl] at hts
  cases hts
  rw [show Tryz.prog.cellsOf 29=6 by kernel_rfl] at hsz
  obtain ⟨fuel,h⟩:=h
  obtain ⟨cs⟩:=cs
  match cs,hsz with
  | [c0,c1,c2,c3,c4,c5],_ =>
    obtain ⟨y0,y1,n,e,_,h0,h1⟩:=trod_struct2 Tryz.underlying29 h
    cases e
    simp only [show Tryz.prog.cellsOf 27=3 by kernel_rfl] at h0 h1
    simp only [DataW.weights,Tryz.underlying29,DataW.weightsEach,List.map_cons,List.map_nil,List.all_append,Bool.and_eq_true] at hw
    obtain ⟨x,hx⟩:=open_dy (cs:=[c0,c1,c2]) (base:=base) (fun c hc=>by
      obtain ⟨u,hu,hok⟩:=hrow 1 c hc
      cases hu;exact hok) h0 hw.1 (fun p hp=>hlt p (by simp [hp]))
    obtain ⟨y,hy⟩:=open_dy (cs:=[c3,c4,c5]) (base:=base) (fun c hc=>by
      obtain ⟨u,hu,hok⟩:=hrow 4 c hc
      cases hu;exact hok) h1 hw.2.1 (fun p hp=>hlt p (by simp [hp]))
    obtain ⟨a1,a2,a3,_⟩:=hx
    obtain ⟨b1,b2,b3,_⟩:=hy
    exact ⟨⟨x,y⟩,[c0,c1,c2,c3,c4,c5],rfl,a1,a2,a3,b1,b2,b3,trivial⟩
def Kd:Ak→TypeId→Prop
  | .b,t=>t=4
  | .i q,t=>Tryz.prog.underlying t=some (.int q)
  | .w,_=>False
  | .fx,_=>False
  | .p,_=>False
  | .d,t=>t=27
  | .v,t=>t=29
def Kds:List Ak→List TypeId→Prop
  | [],[]=>True
  | k :: ks,t :: ts=>Kd k t∧Kds ks ts
  | _,_=>False
def okArg:(k:Ak)→k.T→Prop
  | .i q,n=>q.min≤n∧n≤q.max
  | _,_=>True
theorem arg_k{k:Ak}{t:TypeId}(hk:Kd k t){v:Value}{d:DataW H}{ps:List MemPlace}(hv:Value.okWide Tryz.prog W .any base t v)(h:DataW.Trod enc Tryz.prog W 0 (fun _=>true) true t v d ps)
    (hw:(d.weights Tryz.prog t).all (·≤reachBytes)=true) (hlt:∀ p∈ps,PlOk W p):∃ x:k.T,RepS (C0 W) noBox W v (k.enc x)∧okArg k x:=by
  cases k with
  | b =>
    obtain rfl:t=4:=hk
    obtain ⟨b,rfl⟩:=okWide_bool Tryz.underlying4 hv
    exact ⟨b,Rep.bool b,trivial⟩
  | i q =>
    obtain ⟨n,rfl⟩:=okWide_int hk hv
    refine ⟨n,Rep.int q n,(show q.min≤n∧n≤q.max from ?_)⟩
    have hk:Tryz.prog.underlying t=some (.int q):=hk
    simpa [Value.okWide,Cell.okWide,Cell.ok,hk,IntKind.has] using hv
  | w=>exact hk.elim
  | fx=>exact hk.elim
  | p=>exact hk.elim
  | d =>
    obtain rfl:t=27:=hk
    obtain ⟨x,hx⟩:=arg_d hv h hw hlt;exact ⟨x,hx,trivial⟩
  | v =>
    obtain rfl:t=29:=hk
    obtain ⟨x,hx⟩:=arg_v hv h hw hlt;exact ⟨x,hx,trivial⟩
theorem dec_enc(k:Ak)(x:k.T):k.dec (k.enc x)=some x:=by
  cases k with
  | i q=>cases q<;>rfl
  | _=>rfl
def AllTrue:(ks:List Ak)→AFun ks→Prop
  | [],g=>(match g.1 with | none=>True | some p=>p)∧g.2 = .sv (.one (.bool true))
  | k :: ks,g=>∀ x:k.T,okArg k x→AllTrue ks (g x)
theorem args_ok:∀ {ks:List Ak} {ts:List TypeId} {vs:List Value} {ds:List (DataW H)} {ps:List MemPlace},Kds ks ts→(∀ (j:Nat) t v,ts[j]?=some t→vs[j]?=some v→Value.okWide Tryz.prog W .any base t v) →
    DataW.TrodAll enc Tryz.prog W 0 (fun _=>true) true ts vs ds ps→(DataW.weightsEach Tryz.prog ts ds).all (·≤reachBytes)=true→(∀ p∈ps,PlOk W p) →
    ∃ l,RepSs (C0 W) noBox W vs l∧∀ g,AllTrue ks g→(match (qF ks g l).1 with | none=>True | some p=>p)∧(qF ks g l).2 = .sv (.one (.bool true))
  | [],[],vs,ds,ps,_,_,h,_,_=>by
    obtain ⟨rfl,rfl,rfl⟩:=trodAll_nil h
    exact ⟨[],trivial,fun g hg=>hg⟩
  | [],_ :: _,_,_,_,hk,_,_,_,_=>hk.elim
  | _ :: _,[],_,_,_,hk,_,_,_,_=>hk.elim
  | k :: ks,t :: ts,vs,ds,ps,hk,hv,h,hw,hlt=>by
    obtain ⟨v,vs1,d,ds1,a,b,rfl,rfl,rfl,h1,h2⟩:=trodAll_cons h
    simp only [DataW.weightsEach,List.all_append,Bool.and_eq_true] at hw
    obtain ⟨x,hx,hox⟩:=arg_k hk.1 (hv 0 t v rfl rfl) h1 hw.1 (fun p hp=>hlt p (by simp [hp]))
    obtain ⟨l,hl,hs⟩:=args_ok hk.2 (fun j t v ht hv'=>hv (j+1) t v ht hv') h2 hw.2 (fun p hp=>hlt p (by simp [hp]))
    refine ⟨k.enc x :: l,⟨hx,hl⟩,fun g hg=>?_⟩
    have e:qF (k :: ks) g (k.enc x :: l)=(match k.dec (k.enc x) with | some x=>qF ks (g x) l | none=>ZL):=rfl
    rw [e,dec_enc]
    exact hs (g x) (hg x hox)
theorem law_calls{f:FuncId}{ks:List Ak}{g:AFun ks}(hs:SpecOk Tryz.prog f (qF ks g))(hg:AllTrue ks g){ts:List TypeId}{args:Array Value}{ds:List (DataW H)}{ps:List MemPlace}(hT:Tab W)(hk:Kds ks ts)
    (hv:∀ (j:Nat) t v,ts[j]?=some t→args.toList[j]?=some v→Value.okWide Tryz.prog W .any base t v) (h:DataW.TrodAll enc Tryz.prog W 0 (fun _=>true) true ts args.toList ds ps)
    (hw:(DataW.weightsEach Tryz.prog ts ds).all (·≤reachBytes)=true) (hlt:∀ p∈ps,PlOk W p) :
    Calls Tryz.prog f args W fun e W'=>e = .returned (.bool true)∧Below W.heap.size W W':=by
  obtain ⟨l,hl,hsp⟩:=args_ok hk hv h hw hlt
  have:=hs.2 (C0 W) W args.toList l rfl (fun g hg=>hg.elim) hT hl (hsp g hg).1
  rw [(hsp g hg).2] at this
  refine this.mono ?_
  rintro e w' ⟨v,rfl,hr,hb⟩
  obtain rfl:=YC (A:=noBox) hr
  exact ⟨rfl,hb⟩
theorem trodAll_below{W':World}(hb:Below W.heap.size W W')(hl:laidOutB Tryz.prog=true):∀ {ts:List TypeId} {vs:List Value} {ds:List (DataW H)} {ps:List MemPlace},(∀ t∈ts,Tryz.prog.readableRec t=true∧t<Tryz.prog.types.size) →
    DataW.TrodAll enc Tryz.prog W 0 (fun _=>true) true ts vs ds ps→(∀ p∈ps,p.block<W.heap.size)→DataW.TrodAll enc Tryz.prog W' 0 (fun b=>decide (b<W.heap.size)) true ts vs ds ps
  | [],vs,ds,ps,_,h,_=>by
    obtain ⟨rfl,rfl,rfl⟩:=trodAll_nil h
    exact trodAll_mk0
  | t :: ts,vs,ds,ps,ht,h,hlt=>by
    obtain ⟨v,vs1,d,ds1,a,b,rfl,rfl,rfl,h1,h2⟩:=trodAll_cons h
    exact ⟨a,b,Below.trod hl (ht t (by simp)).1 (ht t (by simp)).2 h1 hb (fun p hp=>hlt p (by simp [hp])),trodAll_below hb hl (fun t h=>ht t (by simp [h])) h2 (fun p hp=>hlt p (by simp [hp])),rfl⟩
theorem law_post{fn:Func}{s:ChangeSpec}(hl:laidOutB Tryz.prog=true)(hres:fn.resultTypes = #[4])(hvars:s.vars = [])(ht:∀ t∈fn.params.toList,Tryz.prog.readableRec t=true∧t<Tryz.prog.types.size)
    {args:Array Value} {ds gs:List (DataW H)} {before:List MemPlace} (hspec:s.fn H (ds ++ gs) = { results:=[.lit (.bool true)],args:=ds })
    (hW:DataW.Whole enc Tryz.prog fn.params.toList s.vars false W args.toList ds gs before) {W':World} (hb:Below W.heap.size W W') :
    s.post enc Tryz.prog fn false true false false W args (.bool true) W':=by
  have hlt:=hW.lt
  have hW':=hW
  obtain ⟨p,q,hA,hV,rfl,hfz,hnd⟩:=hW
  rw [hvars] at hV
  obtain ⟨rfl,rfl⟩:=trodVars_none hV
  refine ⟨ds,[],_,[],p,[],hW',?_,?_,?_,hb.frame _,fun h=>by cases h⟩
  · rw [hspec,hres]
    exact trodAll_mk1 (shut_bool Tryz.underlying4 _)
  · rw [hspec]
    exact trodAll_below hb hl ht hA (fun x hx=>hlt x (by simp [hx]))
  · rw [hspec,hvars];rfl
end
theorem law_contract{H:Type}{enc:TypeId×Value→H}{f:FuncId}{fn:Func}{ks:List Ak}{g:AFun ks}{s:ChangeSpec}(hs:SpecOk Tryz.prog f (qF ks g))(hg:AllTrue ks g)(hl:laidOutB Tryz.prog=true)(hres:fn.resultTypes = #[4])(hvars:s.vars = [])
    (hvt:s.plain.varTypes Tryz.prog = []) (ht:∀ t∈fn.params.toList,Tryz.prog.readableRec t=true∧t<Tryz.prog.types.size) (hk:Kds ks fn.params.toList) (hspec:∀ ds:List (DataW H),ds.length=fn.params.toList.length→s.fn H ds = { results:=[.lit (.bool true)],args:=ds })
    {W:World} {base:Nat} {args:Array Value} {ds gs:List (DataW H)} {before:List MemPlace} (hval:∀ (j:Nat) t v,fn.params[j]?=some t→args[j]?=some v→Value.okWide Tryz.prog W .any base t v)
    (hW:DataW.Whole enc Tryz.prog fn.params.toList s.vars false W args.toList ds gs before) (hw:(DataW.weightsEach Tryz.prog (fn.params.toList ++ s.plain.varTypes Tryz.prog) (ds ++ gs)).all (·≤reachBytes)=true) (hT:Tab W) :
    Calls Tryz.prog f args W fun e W'=>∃ v,e = .returned v∧s.post enc Tryz.prog fn false true false false W args v W':=by
  have hlt:=hW.lt
  have hW':=hW
  obtain ⟨p,q,hA,hV,rfl,hfz,hnd⟩:=hW
  rw [hvars] at hV
  obtain ⟨rfl,rfl⟩:=trodVars_none hV
  rw [hvt,List.append_nil,List.append_nil] at hw
  refine (law_calls hs hg hT hk (fun j t v h1 h2=>hval j t v (by rw [←Array.getElem?_toList];exact h1) (by rw [←Array.getElem?_toList];exact h2)) hA hw (fun x hx=>⟨hlt x (by simp [hx]),fun b o e=>hfz b o (by rw [←e];simp [hx])⟩)).mono ?_
  rintro e W' ⟨rfl,hb⟩
  exact ⟨_,rfl,law_post hl hres hvars ht (by rw [List.append_nil];exact hspec ds (trodAll_length hA).2) hW' hb⟩
theorem tabA_of{W:World}{D:DataW Unit}(hD:∀ ys:List (DataW Unit×List MemPlace),D = .agg (ys.map (·.1))→∀ j,j<64→∃ y,ys[j]?=some y∧y.1 = .lit (.int .u8 (Lib.deBruijn64tab.getD j 0)))
    {g0 : Nat} {t0 : TypeId} {cs0 : Array Value} {f0 : Nat} {p0 : List MemPlace} (hg0 : Tryz.prog.globalNamed "math/bits.deBruijn64tab" = some g0) (ht0 : (Tryz.prog.globals[g0]?).map (·.type) = some t0) (hv0 : W.var? Tryz.prog "math/bits.deBruijn64tab" = some cs0)
    (hd0:DataW.trod (fun _=>()) Tryz.prog W 0 (fun _=>true) false f0 t0 cs0.toList=some (D,p0)):TabA W:=by
  obtain rfl := Option.some.inj ((show Tryz.prog.globalNamed "math/bits.deBruijn64tab" = some 1 by kernel_rfl).symm.trans hg0)
  obtain rfl:=Option.some.inj ((show (Tryz.prog.globals[1]?).map (·.type)=some 156 by kernel_rfl).symm.trans ht0)
  obtain ⟨xs,m1,_,hx1,hlen,hn3,hel⟩:=DataW.trod_array Tryz.underlying156 hd0
  intro j hj
  simp only [Prod.mk.injEq] at hx1
  obtain ⟨y,hy,hy1⟩:=hD xs hx1.1 j hj
  have hj':=hel j hj
  rw [hy,show Tryz.prog.cellsOf 5=1 by kernel_rfl] at hj'
  obtain ⟨k,e1,e2,_⟩:=DataW.trod_int Tryz.underlying5 hj'
  have hk:k=Lib.deBruijn64tab.getD j 0:=by
    rw [e2] at hy1;simpa using hy1
  subst hk
  have:=World.var?_cell hg0 hv0 j
  rw [this]
  rw [Nat.mul_one] at e1
  have e3:(cs0.toList.drop j)[0]?=some (.int .u8 (Lib.deBruijn64tab.getD j 0)):=by
    have:((cs0.toList.drop j).take 1)[0]?=some (.int .u8 (Lib.deBruijn64tab.getD j 0)):=by rw [e1];rfl
    rwa [List.getElem?_take,if_pos (by omega)] at this
  rw [List.getElem?_drop,Nat.add_zero] at e3
  simpa using e3
theorem turn_cells{W:World}{f0:Nat}{cs:List Value}{x:DataW Unit×List MemPlace}(h:DataW.trod (fun _=>()) Tryz.prog W 0 (fun _=>true) false f0 93 cs=some x){a b:Int}{c d:Bool}
    (e:x.1 = .agg [.lit (.int .i64 a),.lit (.int .i64 b),.lit (.bool c),.lit (.bool d)]):cs = [.int .i64 a,.int .i64 b,.bool c,.bool d]:=by
  obtain ⟨xs,n,_,rfl,hl,hlen,hf⟩:=DataW.trod_struct Tryz.underlying93 h
  rw [show Tryz.prog.cellsOf 93=4 by kernel_rfl] at hl
  match cs,hl,xs,hlen,hf with
  | [c0,c1,c2,c3],_,[y0,y1,y2,y3],_,hf =>
    have h0:DataW.trod (fun _=>()) Tryz.prog W 0 (fun _=>true) false n 3 (([c0,c1,c2,c3].drop 0).take (Tryz.prog.cellsOf 3))=some y0:=hf 0 _ rfl
    have h1:DataW.trod (fun _=>()) Tryz.prog W 0 (fun _=>true) false n 3 (([c0,c1,c2,c3].drop 1).take (Tryz.prog.cellsOf 3))=some y1:=hf 1 _ rfl
    have h2:DataW.trod (fun _=>()) Tryz.prog W 0 (fun _=>true) false n 4 (([c0,c1,c2,c3].drop 2).take (Tryz.prog.cellsOf 4))=some y2:=hf 2 _ rfl
    have h3:DataW.trod (fun _=>()) Tryz.prog W 0 (fun _=>true) false n 4 (([c0,c1,c2,c3].drop 3).take (Tryz.prog.cellsOf 4))=some y3:=hf 3 _ rfl
    obtain ⟨k0,e0,r0,_⟩:=DataW.trod_int Tryz.underlying3 h0
    obtain ⟨k1,e1,r1,_⟩:=DataW.trod_int Tryz.underlying3 h1
    obtain ⟨k2,e2,r2⟩:=DataW.trod_bool Tryz.underlying4 h2
    obtain ⟨k3,e3,r3⟩:=DataW.trod_bool Tryz.underlying4 h3
    rw [show Tryz.prog.cellsOf 3=1 by kernel_rfl] at e0 e1
    rw [show Tryz.prog.cellsOf 4=1 by kernel_rfl] at e2 e3
    simp at e0 e1 e2 e3
    subst e0;subst e1;subst e2;subst e3;subst r0;subst r1;subst r2;subst r3
    simp at e
    obtain ⟨rfl,rfl,rfl,rfl⟩:=e
    rfl
theorem tabT_of{W:World}{D:DataW Unit}(hD:D = .agg [.agg [.lit (.int .i64 0),.lit (.int .i64 1),.lit (.bool false),.lit (.bool false)],.agg [.lit (.int .i64 1),.lit (.int .i64 0),.lit (.bool false),.lit (.bool true)],.agg [.lit (.int .i64 0),.lit (.int .i64 1),.lit (.bool true),.lit (.bool true)],.agg [.lit (.int .i64 1),.lit (.int .i64 0),.lit (.bool true),.lit (.bool false)]])
    {g0 : Nat} {t0 : TypeId} {cs0 : Array Value} {f0 : Nat} {p0 : List MemPlace} (hg0 : Tryz.prog.globalNamed "ulp/trig.turns" = some g0) (ht0 : (Tryz.prog.globals[g0]?).map (·.type) = some t0) (hv0 : W.var? Tryz.prog "ulp/trig.turns" = some cs0)
    (hd0:DataW.trod (fun _=>()) Tryz.prog W 0 (fun _=>true) false f0 t0 cs0.toList=some (D,p0)):TabT W:=by
  subst hD
  obtain rfl := Option.some.inj ((show Tryz.prog.globalNamed "ulp/trig.turns" = some 0 by kernel_rfl).symm.trans hg0)
  obtain rfl:=Option.some.inj ((show (Tryz.prog.globals[0]?).map (·.type)=some 94 by kernel_rfl).symm.trans ht0)
  obtain ⟨xs,m1,_,hx1,hlen,hn3,hel⟩:=DataW.trod_array Tryz.underlying94 hd0
  rw [show Tryz.prog.cellsOf 94=16 by kernel_rfl] at hlen
  simp only [Prod.mk.injEq] at hx1
  have hx:=hx1.1
  have e16:cs0.toList=turnsL:=by
    generalize hl:cs0.toList=l at hlen hel
    match xs,hn3,hx,hel with
    | [y0,y1,y2,y3],_,hx,hel =>
      simp only [List.map_cons,List.map_nil,DataW.agg.injEq,List.cons.injEq] at hx
      have h0:=hel 0 (by omega)
      have h1:=hel 1 (by omega)
      have h2:=hel 2 (by omega)
      have h3:=hel 3 (by omega)
      rw [show Tryz.prog.cellsOf 93=4 by kernel_rfl] at h0 h1 h2 h3
      have k0:=turn_cells h0 hx.1.symm
      have k1:=turn_cells h1 hx.2.1.symm
      have k2:=turn_cells h2 hx.2.2.1.symm
      have k3:=turn_cells h3 hx.2.2.2.1.symm
      have e:l=(l.drop (0*4)).take 4 ++ ((l.drop (1*4)).take 4 ++ ((l.drop (2*4)).take 4 ++ (l.drop (3*4)).take 4)):=by
        match l,hlen with
        | [_,_,_,_,_,_,_,_,_,_,_,_,_,_,_,_],_=>rfl
      rw [e,k0,k1,k2,k3]
      rfl
  intro i v e
  rw [World.var?_cell hg0 hv0 i,←Array.getElem?_toList,e16]
  exact e
theorem tab_of{W:World}{D D2:DataW Unit}(hD:∀ ys:List (DataW Unit×List MemPlace),D = .agg (ys.map (·.1))→∀ j,j<64→∃ y,ys[j]?=some y∧y.1 = .lit (.int .u8 (Lib.deBruijn64tab.getD j 0)))
    (hD2:D2 = .agg [.agg [.lit (.int .i64 0),.lit (.int .i64 1),.lit (.bool false),.lit (.bool false)],.agg [.lit (.int .i64 1),.lit (.int .i64 0),.lit (.bool false),.lit (.bool true)],.agg [.lit (.int .i64 0),.lit (.int .i64 1),.lit (.bool true),.lit (.bool true)],.agg [.lit (.int .i64 1),.lit (.int .i64 0),.lit (.bool true),.lit (.bool false)]])
    (hh : D.handleName?.isNone = true) (h : laidMetH Tryz.prog [("math/bits.deBruijn64tab", D), ("ulp/trig.turns", D2)] W) : Tab W := by
  rw [MakeChecks.laidMetH_plain _ _ _ (by subst hD2;show (D.handleName?.isNone && _)=true;rw [hh];rfl)] at h
  obtain ⟨ps,⟨g0,t0,cs0,f0,p0,q0,hg0,ht0,hv0,hd0,⟨g1,t1,cs1,f1,p1,q1,hg1,ht1,hv1,hd1,_⟩,_⟩,_⟩:=h
  exact ⟨tabA_of hD hg0 ht0 hv0 hd0,tabT_of hD2 hg1 ht1 hv1 hd1⟩
end Go.Proofs.YtenkjloaghmjfaaGreatDoor
