/-
Whole parts, numbers from intervals, squares; what is few enough. Plain.
Package ulpref06: sums and products.
Package sincore.
Package ulpref13.
Sines and cosines: what the intervals enclose, how narrow they are, that they have room. Plain.
The whole number next to a number, its rest by 4; one form. Plain.
Package raw: powers of 2, the nearest whole number, its rest by 4.
The references' naturals (ulpref03): Div, plain part.
The references' naturals (ulpref03): Div.
The references' quotient of two numbers is the program's. Plain.
The references: whole numbers, quotients.
Symbolic execution, eighteenth part: words of functions that may write a box of their caller, told by patterns.
Sums of terms that fall by twelfths, in fixed point: inverse tangents, plain and hyperbolic. Plain.
The inverse tangents of 1 / n, plain and hyperbolic, in fixed point. Plain.
Sizes of the inverse tangents' sums; pi by Machin. Plain.
The document's inverse tangents of 1 / n in fixed point; its pi. Plain.
Package consts: the inverse tangents' terms: a closure that writes its maker's box; series.Sum with it.
Package consts: inverse, pi.
Pi: between which numbers it lies; how narrow its enclosures are. Plain.
Package consts: the table, what it encloses: pi.
Right angles taken away: plain.
Dyadic numbers: how low their last bit lies, how high their first. Plain.
Package reduce.
Package reduce: Turns, Scale, Split.
Package ulpref09: pi; ulpref14: pi.
Package ulpref14.
When right angles are told apart: plain.
The reckoning again, so that the kernel can do it: the same functions by recursion on a number of rounds.
Package ulplaw14.
Package ulplaw13: the words.
Answers of sines and cosines against the document's. Plain.
Package ulplaw13: the answers that the document gives; SincoreEncloses.
Sine and cosine: the circle, the mirror, bounds. Plain.
Package ulplaw14: ReduceOdd.
Package ulplaw14: ReduceBack, ReduceNear.
Package ulplaw14: ReduceNear.
Package ulplaw14: ReduceAngles.
Package ulplaw14: ReduceQuarter.
Package ulplaw14: ReduceQuarter's word.
Package ulplaw13: circle, mirror, bounds: the laws' words.
The sine rises, the cosine falls with the amount: partial sum by partial sum. Plain.
Sines and cosines of all numbers of an interval: near the document's, and right. Plain.
Package ulplaw13: near; SincoreBoth.
Sines and cosines over a narrow interval: how narrow. Plain.
Sines and cosines of all numbers of a narrow interval: narrow. Plain.
Sines and cosines of all numbers of an interval, enclosed; the turned pair; what is asked of an answer. Plain.
Of half a turned pair: what becomes of it, cut to the bits that are asked; quotients. Plain.
Quotients of narrow intervals; how great the sines of what is not too near 0 are. Plain.
The angle of so many half turns. Plain.
Sine and cosine of so many half turns, turned: they meet the document's. Plain.
Tangents: what the program's quotient is, and that it meets the document's. Plain.
The document's sine and cosine of half turns keep off 0; quotients of 0. Plain.
What TrigpiBoth asks. Plain.
What TrigpiEncloses asks, behind the reading of a binary64 number. Plain.
What is left of a binary64 number behind half turns has room, and is not too near 0. Plain.
The turned pair: on the circle, mirrored, half a turn on. Plain.
What the program and the document leave of one number behind right angles: as many, and a shared rational. Plain.
Sine and cosine of what is left behind right angles. Plain.
Circle, mirror, half a turn: what ulplaw18 asks without the document. Plain.
The tangent on the other side of 0. Plain.
What is left behind right angles of a number that is not 0: it is not 0, and how great it is. Plain.
How sine, cosine and inverse tangent change from number to number; the tangent of the inverse tangent. Plain.
Sequences of angles: sums of them, the sine and the cosine of a quarter and of half of pi. Plain.
Sequences of angles that lie in an interval in the end: what holds of all numbers of the interval holds of them; the pair of half turns. Plain.
Sine and cosine of a sum of so many half turns, turned. Plain.
Binary64 numbers, taken apart: dyad.From, ulpref04.From, bits.Neg.
What the program leaves behind right angles encloses a sequence of angles; its pair of a binary64; what TrigEncloses asks. Plain.
Package trigpi: the turned pairs.
Package trigpi: of, Both, Enclose.
Package ulpref18.
Package ulplaw18: the answers that the document gives; TrigpiEncloses, TrigpiBoth.
Package trig.
The program's and the document's pair of a binary64; what TrigEncloses asks. Plain.
Packages trig, ulpref17: Both, Enclose; ulplaw17: free, like, sound.
Package ulpref17; ulplaw17: free, like; TrigEncloses behind lives.
Package ulplaw17: free, like, lives; TrigEncloses.
ulplaw17: sound; Touch and Lies of ulpref06; TrigCircle, TrigMirror.
ulplaw17: TrigCircle.
Package ulplaw18: statements without the document: their helpers and runs.
ulplaw17: TrigMirror.
ulplaw17: TrigBounds, TrigBoth: their runs.
ulplaw17: TrigBoth.
ulplaw17, TrigOwn: what is called, as contracts: answers lie in new memory.
ulplaw17, TrigOwn: Enclose's answer lies in new memory; the walk.
ulplaw17, TrigOwn: its end: the run of the code behind the loop.
ulplaw17, TrigOwn: the walk.
ulplaw13, SincoreOwn: what is called, as contracts: answers lie in new memory.
ulplaw13, SincoreOwn: the walk.
From the arguments of a row to numbers and intervals; what a law's call leaves.
-/
import Derived.Test.YtbmolijeikedcaaGreatDoorMg2
import Derived.Test.YtbmolijeikedcaaGreatDoorMg1
import Derived.Test.YtbmolijeikedcaaGreatDoorMg0
import Derived.ProofKit
import Derived.LaidMore
import Derived.OpenShut
import Derived.LaidLaws
import Derived.Carry
import Derived.OpenVars
import Derived.Deep.Strs
import Derived.ChangeCalls
import Derived.Stop.Joined
namespace Go.Proofs.YtbmolijeikedcaaGreatDoor
open Go.RowKit
theorem lost_iff(n:Int)(k:Nat):lostB n k=true↔n % 2^k≠0:=by unfold lostB;simp
def Fl(n:Int)(q:Rat):Prop:=(n:Rat)≤q∧q<(n:Rat)+1
def Ce(n:Int)(q:Rat):Prop:=q≤(n:Rat)∧(n:Rat)<q+1
theorem Fl.neg{n:Int}{q:Rat}(h:Fl n (-q)):Ce (-n) q:=by
  obtain ⟨h1,h2⟩:=h
  constructor
  · rw [Rat.intCast_neg];grind
  · rw [Rat.intCast_neg];grind
theorem Fl.nonneg{n:Int}{q:Rat}(h:Fl n q)(hq:0≤q):0≤n:=by
  have h2:=h.2
  have e:(n:Rat)+1=((n+1:Int):Rat):=by rw [rcA];rfl
  have:((0:Int):Rat)<((n+1:Int):Rat):=by rw [←e];show (0:Rat)<_;grind
  have:=cast_lt.1 this
  omega
theorem Ce.nonneg{n:Int}{q:Rat}(h:Ce n q)(hq:0≤q):0≤n:=by
  have:((0:Int):Rat)≤(n:Rat):=by show (0:Rat)≤_;have:=h.1;grind
  exact cast_le.1 this
theorem amt_split(m:Int)(k:Nat):(m:Rat)*p2 (-(k:Int))=((m/2^k:Int):Rat)+((m % 2^k:Int):Rat)*p2 (-(k:Int)):=by
  have p:=two_pow_pos k
  have h:=Int.mul_ediv_add_emod m (2^k)
  have e:p2 (k:Int)=((2^k:Int):Rat):=p2_nat k
  have i:=p2_neg (k:Int)
  conv=>lhs;lhs;rw [←h]
  rw [rcA,rcM,←e]
  grind
theorem fl_amt{m:Int}(k:Nat):Fl (m/2^k) ((m:Rat)*p2 (-(k:Int)))∧Ce (m/2^k+if lostB m k=true then 1 else 0) ((m:Rat)*p2 (-(k:Int))):=by
  have p:=two_pow_pos k
  have e:p2 (k:Int)=((2^k:Int):Rat):=p2_nat k
  have i:=p2_neg (k:Int)
  have m0:=Int.emod_nonneg m (show (2:Int)^k≠0 by omega)
  have m1:=Int.emod_lt_of_pos m p
  have q0:=p2_pos (-(k:Int))
  have c0:(0:Rat)≤((m % 2^k:Int):Rat):=cast_le.2 m0
  have c1:((m % 2^k:Int):Rat)<p2 (k:Int):=by rw [e];exact cast_lt.2 m1
  have l1:=Rat.mul_lt_mul_of_pos_right c1 q0
  have l0:=rmN c0 (rlL q0)
  rw [amt_split]
  refine ⟨⟨by grind,by grind⟩,?_⟩
  by_cases hl:m % 2^k=0
  · rw [if_neg (by rw [lost_iff];simpa using hl),hl,Int.add_zero]
    have z:((0:Int):Rat)=0:=rfl
    exact ⟨by grind,by grind⟩
  · rw [if_pos (by rw [lost_iff];exact hl)]
    have ad:((m/2^k+1:Int):Rat)=((m/2^k:Int):Rat)+1:=rcA _ _
    have c2:(1:Rat)≤((m % 2^k:Int):Rat):=cast_le.2 (show (1:Int)≤_ by omega)
    have l2:=Rat.mul_pos (show (0:Rat)<((m % 2^k:Int):Rat) by grind) q0
    exact ⟨by rw [ad];grind,by rw [ad];grind⟩
theorem fl_int(n:Int):Fl n (n:Rat)∧Ce n (n:Rat):=⟨⟨by grind,by grind⟩,by grind,by grind⟩
theorem floorD_rv{d:Dx}(hd:0≤d.m):∃ n:Int,(floorD d).rv=(n:Rat)∧Fl n d.rv:=by
  have m0:0≤(oneD d).m:=oneD_p
  have hr:=rv_one hd
  unfold floorD
  split
  · rename_i h
    have e:(oneD d).rv=(((oneD d).sm*2^(oneD d).e.toNat:Int):Rat):=by
      unfold Dx.rv;rw [p2_toNat h,rcM]
    refine ⟨_,e,?_⟩
    rw [←hr,e];exact (fl_int _).1
  · rename_i h
    have p:=two_pow_pos (-(oneD d).e).toNat
    have q0:0≤(oneD d).m/2^(-(oneD d).e).toNat:=Int.ediv_nonneg m0 (by omega)
    have ee:p2 (oneD d).e=p2 (-((-(oneD d).e).toNat:Int)):=by congr 1;omega
    have f:=fl_amt (m:=(oneD d).m) (-(oneD d).e).toNat
    rw [rv_mkD (by split<;>omega),p2_zero,Rat.mul_one,←hr,sm_amt]
    cases hn:(oneD d).neg with
    | false =>
      refine ⟨_,rfl,?_⟩
      rw [Bool.and_false,if_neg (by simp),if_neg (by simp),if_neg (by simp),Int.add_zero,ee,Rat.one_mul]
      exact f.1
    | true =>
      refine ⟨_,rfl,?_⟩
      rw [Bool.and_true,if_pos rfl,if_pos rfl,ee]
      obtain ⟨f1,f2⟩:=f.2
      constructor
      · rw [Rat.intCast_neg];grind
      · rw [Rat.intCast_neg];grind
theorem wholeI_rv{d:Dx}(hd:0≤d.m)(he:0≤d.e)(h:0≤d.rv):(wholeI d:Rat)=d.rv:=by
  rw [(rv_amt hd).1 h,p2_toNat he];unfold wholeI;rw [rcM]
def Fx2(z:Fx)(lo hi:Rat):Prop:=Fl z.a lo∧Ce (z.a+z.e) hi
theorem Fx2.in{z:Fx}{q:Int}{l h r:Rat}(k:Fx2 z (l*p2 q) (h*p2 q))(l0:0≤l)(h1:l≤r)(h2:r≤h):InF q z r:=by
  obtain ⟨k1,k2⟩:=k
  have p:=p2_pos q
  have a1:=rmR h1 (rlL p)
  have a2:=rmR h2 (rlL p)
  have l1:=rmN l0 (rlL p)
  have z0:=k1.nonneg l1
  refine ⟨z0,?_,by have:=k1.1;grind,by have:=k2.1;grind⟩
  have:((z.a:Int):Rat)≤((z.a+z.e:Int):Rat):=by have:=k1.1;have:=k2.1;grind
  have:=cast_le.1 this
  omega
theorem Fx2.e_le{z:Fx}{lo hi c:Rat}{n:Int}(k:Fx2 z lo hi)(h:hi-lo≤c)(hc:c+2≤(n:Rat)):z.e<n:=by
  obtain ⟨k1,k2⟩:=k
  have e:((z.a+z.e:Int):Rat)=(z.a:Rat)+(z.e:Rat):=rcA _ _
  exact cast_lt.1 (by have:=k1.2;have:=k2.2;grind)
theorem fromF_2{v:Vx}{q:Int}(hv:v.P)(h0:0≤v.lo.rv)(h1:0≤v.hi.rv):Fx2 (fromF v q) (v.lo.rv*p2 q) (v.hi.rv*p2 q):=by
  obtain ⟨n,n1,n2⟩:=floorD_rv (d:=shiftD v.lo q) shiftD_p
  obtain ⟨m,m1,m2⟩:=floorD_rv (d:=negD (shiftD v.hi q)) negD_p
  rw [rv_shift hv.1] at n2
  rw [rv_neg shiftD_p,rv_shift hv.2] at m2
  have p:=rlL (p2_pos q)
  have l0:=rmN h0 p
  have l1:=rmN h1 p
  have n0:=n2.nonneg l0
  have c:=m2.neg
  have c0:=c.nonneg l1
  have w1:wholeI (floorD (shiftD v.lo q))=n:=by
    have:=wholeI_rv (d:=floorD (shiftD v.lo q)) floorD_p floorD_e (by rw [n1];exact cast_le.2 n0)
    rw [n1] at this;exact Rat.intCast_inj.1 this
  have rn:(negD (floorD (negD (shiftD v.hi q)))).rv=((-m:Int):Rat):=by rw [rv_neg floorD_p,m1,Rat.intCast_neg]
  have w2:wholeI (negD (floorD (negD (shiftD v.hi q)))) = -m:=by
    have:=wholeI_rv (d:=negD (floorD (negD (shiftD v.hi q)))) negD_p (negD_e0 floorD_e) (by rw [rn];exact cast_le.2 c0)
    rw [rn] at this;exact Rat.intCast_inj.1 this
  unfold Fx2 fromF btwF
  rw [w1,w2]
  refine ⟨n2,?_⟩
  show Ce (n+(-m-n)) _
  rw [show n+(-m-n) = -m by omega];exact c
theorem from9_2{d:Dx}{q:Int}(hd:0≤d.m)(h0:0≤d.rv):Fx2 (from9 d q) (d.rv*p2 q) (d.rv*p2 q):=by
  have e:d.rv*p2 q=(d.m:Rat)*p2 (d.e+q):=by rw [(rv_amt hd).1 h0,p2_add,Rat.mul_assoc]
  rw [e]
  unfold from9
  split
  · rename_i h
    have e2:(d.m:Rat)*p2 (d.e+q)=((d.m*2^(d.e+q).toNat:Int):Rat):=by rw [p2_toNat h,rcM]
    rw [e2]
    refine ⟨(fl_int _).1,?_⟩
    show Ce (_+0) _
    rw [Int.add_zero];exact (fl_int _).2
  · rename_i h
    rw [show d.e+q = -((-d.e-q).toNat:Int) by omega]
    exact fl_amt _
theorem fix11_2{v:Vx}{q:Int}(hv:v.P)(h0:0≤v.lo.rv)(h1:0≤v.hi.rv):Fx2 (fix11 v q) (v.lo.rv*p2 q) (v.hi.rv*p2 q):=by
  have a:=(from9_2 (q:=q) hv.1 h0).1
  have b:=(from9_2 (q:=q) hv.2 h1).2
  refine ⟨a,?_⟩
  unfold fix11 btwF
  show Ce ((from9 v.lo q).a+((from9 v.hi q).a+(from9 v.hi q).e-(from9 v.lo q).a)) _
  rw [show (from9 v.lo q).a+((from9 v.hi q).a+(from9 v.hi q).e-(from9 v.lo q).a)=(from9 v.hi q).a+(from9 v.hi q).e by omega]
  exact b
theorem dn_up_gap{p:Int}{q r r':Rat}(hp:1≤p)(h:Dn p q r)(k:Up p q r')(hq:0≤q):0≤r∧r' - r≤2*eps p*q:=by
  have z:=h.2.2 0 (Rp.zero p) hq
  refine ⟨z,?_⟩
  rcases (show q=0∨0<q by grind) with e | e
  · subst e
    have:=k.2.2 0 (Rp.zero p) Rat.le_refl
    grind
  · have:=(h.rel hp e).1
    have:=k.rel hp e
    grind
section
variable {t:Dx}
theorem pointV_p(d:Dx):(pointV d).P:=⟨oneD_p,oneD_p⟩
theorem sq_prod(ht:0≤t.m):(prodV (pointV t) (pointV t)).lo.rv=t.rv*t.rv∧(prodV (pointV t) (pointV t)).hi.rv=t.rv*t.rv:=by
  have e1:(pointV t).lo.rv=t.rv:=rv_one ht
  have e2:(pointV t).hi.rv=t.rv:=rv_one ht
  obtain ⟨⟨x,y,hx,hy,h⟩,x',y',hx',hy',h'⟩:=prod_at (pointV_p t) (pointV_p t)
  rw [e1,e2] at hx hy hx' hy'
  have a:∀ z,z=t.rv∨z=t.rv→z=t.rv:=fun z hz=>by rcases hz with h | h<;>exact h
  rw [h,h',a x hx,a y hy,a x' hx',a y' hy']
  exact ⟨rfl,rfl⟩
abbrev sqV(t:Dx)(p:Int):Vx:=timesV (pointV t) (pointV t) p
theorem sqV_best(ht:0≤t.m){p:Int}(hp:1≤p):Dn p (t.rv*t.rv) (sqV t p).lo.rv∧Up p (t.rv*t.rv) (sqV t p).hi.rv:=by
  have h:=times_best hp (pointV_p t) (pointV_p t)
  rwa [(sq_prod ht).1,(sq_prod ht).2] at h
theorem sqr_nonneg(a:Rat):0≤a*a:=by
  rcases (show 0≤a∨0≤-a by grind) with h | h
  · exact rmN h h
  · have:=rmN h h;grind
theorem sqr_le1{a:Rat}(h1:a≤1)(h2:-1≤a):a*a≤1:=by
  have:=rmN (show 0≤1-a by grind) (show 0≤1+a by grind)
  grind
theorem trim_same{v:Vx}{p:Int}(hv:v.P)(hp:1≤p){x y:Rat}(h1:Dn p x v.lo.rv)(h2:Up p y v.hi.rv):(trimV v p).lo.rv=v.lo.rv∧(trimV v p).hi.rv=v.hi.rv:=by
  have h:=trim_best hv hp
  exact ⟨h.1.uniq (Dn.self h1.1),h.2.uniq (Up.self h2.1)⟩
theorem eps_p2(p w:Int):eps p*p2 w=p2 (1-p+w):=by unfold eps;rw [p2_add]
def sqS(t:Dx)(w:Int):Fx:=fromF (trimV (sqV t (w+8)) (w+8)) w
def sqR(t:Dx)(q:Int):Fx:=fix11 (sqV t q) q
theorem sqS_alt(ht:0≤t.m)(h1:t.rv≤1)(h2:-1≤t.rv){f:Nat}(f1:1≤f)(f2:f≤2){w:Int}(w0:32≤w)(w1:w≤65536):Alt f (sqS t w) w (t.rv*t.rv):=by
  have x0:=sqr_nonneg t.rv
  have x1:=sqr_le1 h1 h2
  have hp:1≤w+8:=by omega
  obtain ⟨b1,b2⟩:=sqV_best ht hp
  obtain ⟨g1,g2⟩:=dn_up_gap hp b1 b2 x0
  have P:(sqV t (w+8)).P:=trimV_p _ _
  obtain ⟨e1,e2⟩:=trim_same P hp b1 b2
  have F:=fromF_2 (v:=trimV (sqV t (w+8)) (w+8)) (q:=w) (trimV_p _ _) (by rw [e1];exact g1) (by rw [e2];have:=b2.2.1;grind)
  rw [e1,e2] at F
  refine ⟨f1,f2,w0,w1,F.in g1 b1.2.1 b2.2.1,?_,x0,x1⟩
  have:=F.e_le (c:=1) (n:=3) (by
    have p0:=p2_pos w
    have m1:=rmR g2 (rlL p0)
    have m2:=rmL x1 (rmN (rlL (eps_pos (w+8))) (rlL p0))
    have e:eps (w+8)*p2 w=p2 (-7):=by rw [eps_p2];congr 1;omega
    have e7:p2 (-7)≤p2 (-1):=p2_le (by omega)
    have e8:2*p2 (-1)=1:=by have:=p2_neg 1;rw [p2_one] at this;grind
    grind) (by show (1:Rat)+2≤3;grind)
  show (sqS t w).e≤16
  have:(sqS t w).e<3:=this
  omega
theorem sqR_alt(ht:0≤t.m)(h1:t.rv≤1)(h2:-1≤t.rv){f:Nat}(f1:1≤f)(f2:f≤2){w:Int}(w0:32≤w)(w1:w≤65536):Alt f (sqR t w) w (t.rv*t.rv):=by
  have x0:=sqr_nonneg t.rv
  have x1:=sqr_le1 h1 h2
  have hp:1≤w:=by omega
  obtain ⟨b1,b2⟩:=sqV_best ht hp
  obtain ⟨g1,g2⟩:=dn_up_gap hp b1 b2 x0
  have P:(sqV t w).P:=trimV_p _ _
  have F:=fix11_2 (v:=sqV t w) (q:=w) P g1 (by have:=b2.2.1;grind)
  refine ⟨f1,f2,w0,w1,F.in g1 b1.2.1 b2.2.1,?_,x0,x1⟩
  have:=F.e_le (c:=4) (n:=6) (by
    have p0:=p2_pos w
    have m1:=rmR g2 (rlL p0)
    have m2:=rmL x1 (rmN (rlL (eps_pos w)) (rlL p0))
    have e:eps w*p2 w=2:=by rw [eps_p2,show 1-w+w=1 by omega,p2_one]
    grind) (by show (4:Rat)+2≤6;grind)
  show (sqR t w).e≤16
  have:(sqR t w).e<6:=this
  omega
theorem Alt.sqOk{f:Nat}{sq:Fx}{w:Int}{x:Rat}(h:Alt f sq w x):sq.Ok:=by
  have a:=h.hsq.le_one (by have:=h.w0;omega) h.x1
  have:=blen_pow_le a
  have w1:=h.w1
  have w0:=h.w0
  have:=h.he
  exact ⟨h.hsq.a0,by omega,h.hsq.e0,by omega⟩
end
def altV(f:Nat)(t:Dx)(w:Int):Vx:=ivF (altD f (sqS t w) w (altK f (sqS t w) w) ((altT f (sqS t w) w (altK f (sqS t w) w)).e+8)) w
def altR(f:Nat)(t:Dx)(w:Int):Vx:=ivF (altD f (sqR t w) w (altK f (sqR t w) w+1) 4) w
structure AltIv (f:Nat) (t:Dx) (w:Int) (v:Vx):Prop where
  p:v.P
  enc:Enc (altS f (t.rv*t.rv)) v.lo.rv v.hi.rv
  lo:1≤4*v.lo.rv
  hi:v.hi.rv≤3
  wide:v.hi.rv-v.lo.rv≤p2 (22-w)
  bits:∃ a b:Int,0≤a∧a≤3*2^w.toNat∧0≤b∧b≤3*2^w.toNat∧v=⟨mkD false a (-w),mkD false b (-w)⟩
theorem altIv_of{f:Nat}{t:Dx}{sq:Fx}{w:Int}{K:Nat}{c:Int}(h:Alt f sq w (t.rv*t.rv))(hK:1≤K)(hK1:(K:Int)≤w+2)(c0:0≤c)(c1:c≤32)(hc:12*(tmf f (t.rv*t.rv) K*p2 w)≤11*(c:Rat)) :
    AltIv f t w (ivF (altD f sq w K c) w):=by
  obtain ⟨b1,b2,b3,b4⟩:=altD_bd h hK hK1 c0 c1
  have E:=altD_enc h hK hc
  have w0:=h.w0
  have P:=two_pow_pos w.toNat
  generalize altD f sq w K c=z at *
  have r1:(ivF z w).lo.rv=(z.a:Rat)*p2 (-w):=by
    show (mkD false z.a (-w)).rv=_;rw [rv_mkD (by omega)];rfl
  have r2:(ivF z w).hi.rv=((z.a+z.e:Int):Rat)*p2 (-w):=by
    show (mkD false (z.a+z.e) (-w)).rv=_;rw [rv_mkD (by omega)];rfl
  have pw:p2 w=((2^w.toNat:Int):Rat):=p2_toNat (by omega)
  have q:=p2_pos w
  refine ⟨⟨mkD_p,mkD_p⟩,by rw [r1,r2];exact E,?_,?_,?_,z.a,z.a+z.e,by omega,by omega,by omega,b4,rfl⟩
  · rw [r1,←mul_p2_le w]
    have e:4*((z.a:Rat)*p2 (-w))*p2 w=((4*z.a:Int):Rat):=by
      rw [Rat.mul_assoc,div_p2,rcM];rfl
    rw [e,Rat.one_mul,pw];exact cast_le.2 b1
  · rw [r2,←mul_p2_le w,div_p2,pw]
    have:((z.a+z.e:Int):Rat)≤((3*2^w.toNat:Int):Rat):=cast_le.2 b4
    rw [rcM] at this;exact this
  · rw [r1,r2,←mul_p2_le w]
    have e:(((z.a+z.e:Int):Rat)*p2 (-w)-(z.a:Rat)*p2 (-w))*p2 w=(z.e:Rat):=by
      have h1:=div_p2 (z.a+z.e) w
      have h2:=div_p2 z.a w
      rw [rcA] at h1 ⊢
      grind
    rw [e,←p2_add,show 22-w+w=22 by omega,p2_toNat (by omega)]
    exact cast_le.2 (show z.e≤2^(22:Int).toNat from by have:(2:Int)^(22:Int).toNat=4194304:=rfl;omega)
theorem altV_iv{f:Nat}{t:Dx}{w:Int}(h:Alt f (sqS t w) w (t.rv*t.rv)):AltIv f t w (altV f t w):=by
  obtain ⟨k1,k2,k3,k4⟩:=altK_spec h
  have e0:=(altT_in h (altK f (sqS t w) w)).e0
  have e1:=altT_e h (altK f (sqS t w) w)
  refine altIv_of h k1 (by omega) (by omega) (by omega) ?_
  have a:=(altT_in h (altK f (sqS t w) w)).2.2.2
  rw [k3,Int.zero_add] at a
  rw [rcA]
  have c1:=cast_le.2 e1
  have z:((16:Int):Rat)=16:=rfl
  have z8:((8:Int):Rat)=8:=rfl
  grind
theorem altR_iv{f:Nat}{t:Dx}{w:Int}(h:Alt f (sqR t w) w (t.rv*t.rv)):AltIv f t w (altR f t w):=by
  obtain ⟨k1,k2,k3,k4⟩:=altK_spec h
  refine altIv_of h (by omega) (by omega) (by omega) (by omega) ?_
  have a:=tmf_end h
  have b:=tmf_twelve h.f1 h.x0 h.x1 k1
  have:=rmR b (rlL (p2_pos w))
  have z:((4:Int):Rat)=4:=rfl
  grind
def spK6:LKeep:=⟨[0,4,3,2],[(0,6),(8,6)],11⟩
def spSt6(cs:List At)(j:Int)(v:Vx):List (Nat×Tv)×List (Nat×Nat×At) :=
  ([(0,.sv (.one (.rows false 3 4 cs))),(4,iT j),(3,.sv (.one (.ptr 8 0))),(2,.sv (.one (.ptr 0 0)))],
   [(0,0,.bool false),(0,1,.words true []),(0,2,.int .i64 0),(0,3,.bool false),(0,4,.words true []),(0,5,.int .i64 0),(8,0,.bool v.lo.neg),(8,1,.words false v.lo.xs),(8,2,.int .i64 v.lo.e),(8,3,.bool v.hi.neg),(8,4,.words false v.hi.xs),(8,5,.int .i64 v.hi.e)])
def c4(a b c d:Dx):List At:=dyL false a ++ (dyL false b ++ (dyL false c ++ dyL false d))
theorem gSpan_vc(a b c d:Dx)(v1 v2 v3:Vx)(Q:Tv→Prop):execF ⟨tys2,sRef4⟩ (invAt 3 (.cuts spK6 [spSt6 (c4 a b c d) 1 ⟨a,a⟩,spSt6 (c4 a b c d) 2 v1,spSt6 (c4 a b c d) 3 v2,spSt6 (c4 a b c d) 4 v3])) 0 Tryz.f69 [.one (.rows false 3 4 (c4 a b c d))] Q=(((0:Int)≤0∧(0:Int)<(↑(4:Nat):Int))∧((0:Int)≤0∧(0:Int)<(↑(4:Nat):Int))∧true=true∧true=true∧Sg.mk [(0,Tv.sv (Sv.one (At.rows false 3 4 (At.bool a.neg :: At.words false a.xs :: At.int .i64 a.e :: At.bool b.neg :: At.words false b.xs :: At.int .i64 b.e :: ivL false (Vx.mk c d))))),(4,iT 1),(3,Tv.sv (Sv.one (At.ptr ((1:Nat)+7) 0))),(2,Tv.sv (Sv.one (At.ptr 0 0)))] [(0,0,At.bool false),(0,1,At.words true []),(0,2,At.int .i64 0),(0,3,At.bool false),(0,4,At.words true []),(0,5,At.int .i64 0),(8,0,At.bool a.neg),(8,1,At.words false a.xs),(8,2,At.int .i64 a.e),(8,3,At.bool a.neg),(8,4,At.words false a.xs),(8,5,At.int .i64 a.e)] 11=Sg.mk [(0,Tv.sv (Sv.one (At.rows false 3 4 (At.bool a.neg :: At.words false a.xs :: At.int .i64 a.e :: At.bool b.neg :: At.words false b.xs :: At.int .i64 b.e :: ivL false (Vx.mk c d))))),(4,iT 1),(3,Tv.sv (Sv.one (At.ptr 8 0))),(2,Tv.sv (Sv.one (At.ptr 0 0)))] [(0,0,At.bool false),(0,1,At.words true []),(0,2,At.int .i64 0),(0,3,At.bool false),(0,4,At.words true []),(0,5,At.int .i64 0),(8,0,At.bool a.neg),(8,1,At.words false a.xs),(8,2,At.int .i64 a.e),(8,3,At.bool a.neg),(8,4,At.words false a.xs),(8,5,At.int .i64 a.e)] 11∧(((0:Int)≤1∧(1:Int)<(↑(4:Nat):Int))∧(Dx.Sm 34359738368 b∧Dx.Sm 34359738368 a)∧true=true∧br (ltI (cmpD b a) 0) (((0:Int)≤1∧(1:Int)<(↑(4:Nat):Int))∧((0:Int)≤1∧(1:Int)<(↑(4:Nat):Int))∧(Dx.Sm 34359738368 b∧Dx.Sm 34359738368 a)∧true=true∧br (ltI 0 (cmpD b a)) (((0:Int)≤1∧(1:Int)<(↑(4:Nat):Int))∧inR ((1:Int)+1)∧true=true∧Sg.mk [(0,Tv.sv (Sv.one (At.rows false 3 4 (At.bool a.neg :: At.words false a.xs :: At.int .i64 a.e :: At.bool b.neg :: At.words false b.xs :: At.int .i64 b.e :: ivL false (Vx.mk c d))))),(4,iT ((1:Int)+1)),(3,Tv.sv (Sv.one (At.ptr 8 0))),(2,Tv.sv (Sv.one (At.ptr 0 0)))] [(0,0,At.bool false),(0,1,At.words true []),(0,2,At.int .i64 0),(0,3,At.bool false),(0,4,At.words true []),(0,5,At.int .i64 0),(8,0,At.bool b.neg),(8,1,At.words false b.xs),(8,2,At.int .i64 b.e),(8,3,At.bool b.neg),(8,4,At.words false b.xs),(8,5,At.int .i64 b.e)] 11=Sg.mk [(0,Tv.sv (Sv.one (At.rows false 3 4 (At.bool a.neg :: At.words false a.xs :: At.int .i64 a.e :: At.bool b.neg :: At.words false b.xs :: At.int .i64 b.e :: ivL false (Vx.mk c d))))),(4,iT 2),(3,Tv.sv (Sv.one (At.ptr 8 0))),(2,Tv.sv (Sv.one (At.ptr 0 0)))] [(0,0,At.bool false),(0,1,At.words true []),(0,2,At.int .i64 0),(0,3,At.bool false),(0,4,At.words true []),(0,5,At.int .i64 0),(8,0,At.bool v1.lo.neg),(8,1,At.words false v1.lo.xs),(8,2,At.int .i64 v1.lo.e),(8,3,At.bool v1.hi.neg),(8,4,At.words false v1.hi.xs),(8,5,At.int .i64 v1.hi.e)] 11) (inR ((1:Int)+1)∧true=true∧Sg.mk [(0,Tv.sv (Sv.one (At.rows false 3 4 (At.bool a.neg :: At.words false a.xs :: At.int .i64 a.e :: At.bool b.neg :: At.words false b.xs :: At.int .i64 b.e :: ivL false (Vx.mk c d))))),(4,iT ((1:Int)+1)),(3,Tv.sv (Sv.one (At.ptr 8 0))),(2,Tv.sv (Sv.one (At.ptr 0 0)))] [(0,0,At.bool false),(0,1,At.words true []),(0,2,At.int .i64 0),(0,3,At.bool false),(0,4,At.words true []),(0,5,At.int .i64 0),(8,0,At.bool b.neg),(8,1,At.words false b.xs),(8,2,At.int .i64 b.e),(8,3,At.bool a.neg),(8,4,At.words false a.xs),(8,5,At.int .i64 a.e)] 11=Sg.mk [(0,Tv.sv (Sv.one (At.rows false 3 4 (At.bool a.neg :: At.words false a.xs :: At.int .i64 a.e :: At.bool b.neg :: At.words false b.xs :: At.int .i64 b.e :: ivL false (Vx.mk c d))))),(4,iT 2),(3,Tv.sv (Sv.one (At.ptr 8 0))),(2,Tv.sv (Sv.one (At.ptr 0 0)))] [(0,0,At.bool false),(0,1,At.words true []),(0,2,At.int .i64 0),(0,3,At.bool false),(0,4,At.words true []),(0,5,At.int .i64 0),(8,0,At.bool v1.lo.neg),(8,1,At.words false v1.lo.xs),(8,2,At.int .i64 v1.lo.e),(8,3,At.bool v1.hi.neg),(8,4,At.words false v1.hi.xs),(8,5,At.int .i64 v1.hi.e)] 11)) (((0:Int)≤1∧(1:Int)<(↑(4:Nat):Int))∧(Dx.Sm 34359738368 b∧Dx.Sm 34359738368 a)∧true=true∧br (ltI 0 (cmpD b a)) (((0:Int)≤1∧(1:Int)<(↑(4:Nat):Int))∧inR ((1:Int)+1)∧true=true∧Sg.mk [(0,Tv.sv (Sv.one (At.rows false 3 4 (At.bool a.neg :: At.words false a.xs :: At.int .i64 a.e :: At.bool b.neg :: At.words false b.xs :: At.int .i64 b.e :: ivL false (Vx.mk c d))))),(4,iT ((1:Int)+1)),(3,Tv.sv (Sv.one (At.ptr 8 0))),(2,Tv.sv (Sv.one (At.ptr 0 0)))] [(0,0,At.bool false),(0,1,At.words true []),(0,2,At.int .i64 0),(0,3,At.bool false),(0,4,At.words true []),(0,5,At.int .i64 0),(8,0,At.bool a.neg),(8,1,At.words false a.xs),(8,2,At.int .i64 a.e),(8,3,At.bool b.neg),(8,4,At.words false b.xs),(8,5,At.int .i64 b.e)] 11=Sg.mk [(0,Tv.sv (Sv.one (At.rows false 3 4 (At.bool a.neg :: At.words false a.xs :: At.int .i64 a.e :: At.bool b.neg :: At.words false b.xs :: At.int .i64 b.e :: ivL false (Vx.mk c d))))),(4,iT 2),(3,Tv.sv (Sv.one (At.ptr 8 0))),(2,Tv.sv (Sv.one (At.ptr 0 0)))] [(0,0,At.bool false),(0,1,At.words true []),(0,2,At.int .i64 0),(0,3,At.bool false),(0,4,At.words true []),(0,5,At.int .i64 0),(8,0,At.bool v1.lo.neg),(8,1,At.words false v1.lo.xs),(8,2,At.int .i64 v1.lo.e),(8,3,At.bool v1.hi.neg),(8,4,At.words false v1.hi.xs),(8,5,At.int .i64 v1.hi.e)] 11) (inR ((1:Int)+1)∧true=true∧Sg.mk [(0,Tv.sv (Sv.one (At.rows false 3 4 (At.bool a.neg :: At.words false a.xs :: At.int .i64 a.e :: At.bool b.neg :: At.words false b.xs :: At.int .i64 b.e :: ivL false (Vx.mk c d))))),(4,iT ((1:Int)+1)),(3,Tv.sv (Sv.one (At.ptr 8 0))),(2,Tv.sv (Sv.one (At.ptr 0 0)))] [(0,0,At.bool false),(0,1,At.words true []),(0,2,At.int .i64 0),(0,3,At.bool false),(0,4,At.words true []),(0,5,At.int .i64 0),(8,0,At.bool a.neg),(8,1,At.words false a.xs),(8,2,At.int .i64 a.e),(8,3,At.bool a.neg),(8,4,At.words false a.xs),(8,5,At.int .i64 a.e)] 11=Sg.mk [(0,Tv.sv (Sv.one (At.rows false 3 4 (At.bool a.neg :: At.words false a.xs :: At.int .i64 a.e :: At.bool b.neg :: At.words false b.xs :: At.int .i64 b.e :: ivL false (Vx.mk c d))))),(4,iT 2),(3,Tv.sv (Sv.one (At.ptr 8 0))),(2,Tv.sv (Sv.one (At.ptr 0 0)))] [(0,0,At.bool false),(0,1,At.words true []),(0,2,At.int .i64 0),(0,3,At.bool false),(0,4,At.words true []),(0,5,At.int .i64 0),(8,0,At.bool v1.lo.neg),(8,1,At.words false v1.lo.xs),(8,2,At.int .i64 v1.lo.e),(8,3,At.bool v1.hi.neg),(8,4,At.words false v1.hi.xs),(8,5,At.int .i64 v1.hi.e)] 11)))∧(((0:Int)≤2∧(2:Int)<(↑(4:Nat):Int))∧(Dx.Sm 34359738368 c∧Dx.Sm 34359738368 v1.lo)∧true=true∧br (ltI (cmpD c v1.lo) 0) (((0:Int)≤2∧(2:Int)<(↑(4:Nat):Int))∧((0:Int)≤2∧(2:Int)<(↑(4:Nat):Int))∧(Dx.Sm 34359738368 c∧Dx.Sm 34359738368 v1.hi)∧true=true∧br (ltI 0 (cmpD c v1.hi)) (((0:Int)≤2∧(2:Int)<(↑(4:Nat):Int))∧inR ((2:Int)+1)∧true=true∧Sg.mk [(0,Tv.sv (Sv.one (At.rows false 3 4 (At.bool a.neg :: At.words false a.xs :: At.int .i64 a.e :: At.bool b.neg :: At.words false b.xs :: At.int .i64 b.e :: ivL false (Vx.mk c d))))),(4,iT ((2:Int)+1)),(3,Tv.sv (Sv.one (At.ptr 8 0))),(2,Tv.sv (Sv.one (At.ptr 0 0)))] [(0,0,At.bool false),(0,1,At.words true []),(0,2,At.int .i64 0),(0,3,At.bool false),(0,4,At.words true []),(0,5,At.int .i64 0),(8,0,At.bool c.neg),(8,1,At.words false c.xs),(8,2,At.int .i64 c.e),(8,3,At.bool c.neg),(8,4,At.words false c.xs),(8,5,At.int .i64 c.e)] 11=Sg.mk [(0,Tv.sv (Sv.one (At.rows false 3 4 (At.bool a.neg :: At.words false a.xs :: At.int .i64 a.e :: At.bool b.neg :: At.words false b.xs :: At.int .i64 b.e :: ivL false (Vx.mk c d))))),(4,iT 3),(3,Tv.sv (Sv.one (At.ptr 8 0))),(2,Tv.sv (Sv.one (At.ptr 0 0)))] [(0,0,At.bool false),(0,1,At.words true []),(0,2,At.int .i64 0),(0,3,At.bool false),(0,4,At.words true []),(0,5,At.int .i64 0),(8,0,At.bool v2.lo.neg),(8,1,At.words false v2.lo.xs),(8,2,At.int .i64 v2.lo.e),(8,3,At.bool v2.hi.neg),(8,4,At.words false v2.hi.xs),(8,5,At.int .i64 v2.hi.e)] 11) (inR ((2:Int)+1)∧true=true∧Sg.mk [(0,Tv.sv (Sv.one (At.rows false 3 4 (At.bool a.neg :: At.words false a.xs :: At.int .i64 a.e :: At.bool b.neg :: At.words false b.xs :: At.int .i64 b.e :: ivL false (Vx.mk c d))))),(4,iT ((2:Int)+1)),(3,Tv.sv (Sv.one (At.ptr 8 0))),(2,Tv.sv (Sv.one (At.ptr 0 0)))] [(0,0,At.bool false),(0,1,At.words true []),(0,2,At.int .i64 0),(0,3,At.bool false),(0,4,At.words true []),(0,5,At.int .i64 0),(8,0,At.bool c.neg),(8,1,At.words false c.xs),(8,2,At.int .i64 c.e),(8,3,At.bool v1.hi.neg),(8,4,At.words false v1.hi.xs),(8,5,At.int .i64 v1.hi.e)] 11=Sg.mk [(0,Tv.sv (Sv.one (At.rows false 3 4 (At.bool a.neg :: At.words false a.xs :: At.int .i64 a.e :: At.bool b.neg :: At.words false b.xs :: At.int .i64 b.e :: ivL false (Vx.mk c d))))),(4,iT 3),(3,Tv.sv (Sv.one (At.ptr 8 0))),(2,Tv.sv (Sv.one (At.ptr 0 0)))] [(0,0,At.bool false),(0,1,At.words true []),(0,2,At.int .i64 0),(0,3,At.bool false),(0,4,At.words true []),(0,5,At.int .i64 0),(8,0,At.bool v2.lo.neg),(8,1,At.words false v2.lo.xs),(8,2,At.int .i64 v2.lo.e),(8,3,At.bool v2.hi.neg),(8,4,At.words false v2.hi.xs),(8,5,At.int .i64 v2.hi.e)] 11)) (((0:Int)≤2∧(2:Int)<(↑(4:Nat):Int))∧(Dx.Sm 34359738368 c∧Dx.Sm 34359738368 v1.hi)∧true=true∧br (ltI 0 (cmpD c v1.hi)) (((0:Int)≤2∧(2:Int)<(↑(4:Nat):Int))∧inR ((2:Int)+1)∧true=true∧Sg.mk [(0,Tv.sv (Sv.one (At.rows false 3 4 (At.bool a.neg :: At.words false a.xs :: At.int .i64 a.e :: At.bool b.neg :: At.words false b.xs :: At.int .i64 b.e :: ivL false (Vx.mk c d))))),(4,iT ((2:Int)+1)),(3,Tv.sv (Sv.one (At.ptr 8 0))),(2,Tv.sv (Sv.one (At.ptr 0 0)))] [(0,0,At.bool false),(0,1,At.words true []),(0,2,At.int .i64 0),(0,3,At.bool false),(0,4,At.words true []),(0,5,At.int .i64 0),(8,0,At.bool v1.lo.neg),(8,1,At.words false v1.lo.xs),(8,2,At.int .i64 v1.lo.e),(8,3,At.bool c.neg),(8,4,At.words false c.xs),(8,5,At.int .i64 c.e)] 11=Sg.mk [(0,Tv.sv (Sv.one (At.rows false 3 4 (At.bool a.neg :: At.words false a.xs :: At.int .i64 a.e :: At.bool b.neg :: At.words false b.xs :: At.int .i64 b.e :: ivL false (Vx.mk c d))))),(4,iT 3),(3,Tv.sv (Sv.one (At.ptr 8 0))),(2,Tv.sv (Sv.one (At.ptr 0 0)))] [(0,0,At.bool false),(0,1,At.words true []),(0,2,At.int .i64 0),(0,3,At.bool false),(0,4,At.words true []),(0,5,At.int .i64 0),(8,0,At.bool v2.lo.neg),(8,1,At.words false v2.lo.xs),(8,2,At.int .i64 v2.lo.e),(8,3,At.bool v2.hi.neg),(8,4,At.words false v2.hi.xs),(8,5,At.int .i64 v2.hi.e)] 11) (inR ((2:Int)+1)∧true=true∧Sg.mk [(0,Tv.sv (Sv.one (At.rows false 3 4 (At.bool a.neg :: At.words false a.xs :: At.int .i64 a.e :: At.bool b.neg :: At.words false b.xs :: At.int .i64 b.e :: ivL false (Vx.mk c d))))),(4,iT ((2:Int)+1)),(3,Tv.sv (Sv.one (At.ptr 8 0))),(2,Tv.sv (Sv.one (At.ptr 0 0)))] [(0,0,At.bool false),(0,1,At.words true []),(0,2,At.int .i64 0),(0,3,At.bool false),(0,4,At.words true []),(0,5,At.int .i64 0),(8,0,At.bool v1.lo.neg),(8,1,At.words false v1.lo.xs),(8,2,At.int .i64 v1.lo.e),(8,3,At.bool v1.hi.neg),(8,4,At.words false v1.hi.xs),(8,5,At.int .i64 v1.hi.e)] 11=Sg.mk [(0,Tv.sv (Sv.one (At.rows false 3 4 (At.bool a.neg :: At.words false a.xs :: At.int .i64 a.e :: At.bool b.neg :: At.words false b.xs :: At.int .i64 b.e :: ivL false (Vx.mk c d))))),(4,iT 3),(3,Tv.sv (Sv.one (At.ptr 8 0))),(2,Tv.sv (Sv.one (At.ptr 0 0)))] [(0,0,At.bool false),(0,1,At.words true []),(0,2,At.int .i64 0),(0,3,At.bool false),(0,4,At.words true []),(0,5,At.int .i64 0),(8,0,At.bool v2.lo.neg),(8,1,At.words false v2.lo.xs),(8,2,At.int .i64 v2.lo.e),(8,3,At.bool v2.hi.neg),(8,4,At.words false v2.hi.xs),(8,5,At.int .i64 v2.hi.e)] 11)))∧(((0:Int)≤3∧(3:Int)<(↑(4:Nat):Int))∧(Dx.Sm 34359738368 d∧Dx.Sm 34359738368 v2.lo)∧true=true∧br (ltI (cmpD d v2.lo) 0) (((0:Int)≤3∧(3:Int)<(↑(4:Nat):Int))∧((0:Int)≤3∧(3:Int)<(↑(4:Nat):Int))∧(Dx.Sm 34359738368 d∧Dx.Sm 34359738368 v2.hi)∧true=true∧br (ltI 0 (cmpD d v2.hi)) (((0:Int)≤3∧(3:Int)<(↑(4:Nat):Int))∧inR ((3:Int)+1)∧true=true∧Sg.mk [(0,Tv.sv (Sv.one (At.rows false 3 4 (At.bool a.neg :: At.words false a.xs :: At.int .i64 a.e :: At.bool b.neg :: At.words false b.xs :: At.int .i64 b.e :: ivL false (Vx.mk c d))))),(4,iT ((3:Int)+1)),(3,Tv.sv (Sv.one (At.ptr 8 0))),(2,Tv.sv (Sv.one (At.ptr 0 0)))] [(0,0,At.bool false),(0,1,At.words true []),(0,2,At.int .i64 0),(0,3,At.bool false),(0,4,At.words true []),(0,5,At.int .i64 0),(8,0,At.bool d.neg),(8,1,At.words false d.xs),(8,2,At.int .i64 d.e),(8,3,At.bool d.neg),(8,4,At.words false d.xs),(8,5,At.int .i64 d.e)] 11=Sg.mk [(0,Tv.sv (Sv.one (At.rows false 3 4 (At.bool a.neg :: At.words false a.xs :: At.int .i64 a.e :: At.bool b.neg :: At.words false b.xs :: At.int .i64 b.e :: ivL false (Vx.mk c d))))),(4,iT 4),(3,Tv.sv (Sv.one (At.ptr 8 0))),(2,Tv.sv (Sv.one (At.ptr 0 0)))] [(0,0,At.bool false),(0,1,At.words true []),(0,2,At.int .i64 0),(0,3,At.bool false),(0,4,At.words true []),(0,5,At.int .i64 0),(8,0,At.bool v3.lo.neg),(8,1,At.words false v3.lo.xs),(8,2,At.int .i64 v3.lo.e),(8,3,At.bool v3.hi.neg),(8,4,At.words false v3.hi.xs),(8,5,At.int .i64 v3.hi.e)] 11) (inR ((3:Int)+1)∧true=true∧Sg.mk [(0,Tv.sv (Sv.one (At.rows false 3 4 (At.bool a.neg :: At.words false a.xs :: At.int .i64 a.e :: At.bool b.neg :: At.words false b.xs :: At.int .i64 b.e :: ivL false (Vx.mk c d))))),(4,iT ((3:Int)+1)),(3,Tv.sv (Sv.one (At.ptr 8 0))),(2,Tv.sv (Sv.one (At.ptr 0 0)))] [(0,0,At.bool false),(0,1,At.words true []),(0,2,At.int .i64 0),(0,3,At.bool false),(0,4,At.words true []),(0,5,At.int .i64 0),(8,0,At.bool d.neg),(8,1,At.words false d.xs),(8,2,At.int .i64 d.e),(8,3,At.bool v2.hi.neg),(8,4,At.words false v2.hi.xs),(8,5,At.int .i64 v2.hi.e)] 11=Sg.mk [(0,Tv.sv (Sv.one (At.rows false 3 4 (At.bool a.neg :: At.words false a.xs :: At.int .i64 a.e :: At.bool b.neg :: At.words false b.xs :: At.int .i64 b.e :: ivL false (Vx.mk c d))))),(4,iT 4),(3,Tv.sv (Sv.one (At.ptr 8 0))),(2,Tv.sv (Sv.one (At.ptr 0 0)))] [(0,0,At.bool false),(0,1,At.words true []),(0,2,At.int .i64 0),(0,3,At.bool false),(0,4,At.words true []),(0,5,At.int .i64 0),(8,0,At.bool v3.lo.neg),(8,1,At.words false v3.lo.xs),(8,2,At.int .i64 v3.lo.e),(8,3,At.bool v3.hi.neg),(8,4,At.words false v3.hi.xs),(8,5,At.int .i64 v3.hi.e)] 11)) (((0:Int)≤3∧(3:Int)<(↑(4:Nat):Int))∧(Dx.Sm 34359738368 d∧Dx.Sm 34359738368 v2.hi)∧true=true∧br (ltI 0 (cmpD d v2.hi)) (((0:Int)≤3∧(3:Int)<(↑(4:Nat):Int))∧inR ((3:Int)+1)∧true=true∧Sg.mk [(0,Tv.sv (Sv.one (At.rows false 3 4 (At.bool a.neg :: At.words false a.xs :: At.int .i64 a.e :: At.bool b.neg :: At.words false b.xs :: At.int .i64 b.e :: ivL false (Vx.mk c d))))),(4,iT ((3:Int)+1)),(3,Tv.sv (Sv.one (At.ptr 8 0))),(2,Tv.sv (Sv.one (At.ptr 0 0)))] [(0,0,At.bool false),(0,1,At.words true []),(0,2,At.int .i64 0),(0,3,At.bool false),(0,4,At.words true []),(0,5,At.int .i64 0),(8,0,At.bool v2.lo.neg),(8,1,At.words false v2.lo.xs),(8,2,At.int .i64 v2.lo.e),(8,3,At.bool d.neg),(8,4,At.words false d.xs),(8,5,At.int .i64 d.e)] 11=Sg.mk [(0,Tv.sv (Sv.one (At.rows false 3 4 (At.bool a.neg :: At.words false a.xs :: At.int .i64 a.e :: At.bool b.neg :: At.words false b.xs :: At.int .i64 b.e :: ivL false (Vx.mk c d))))),(4,iT 4),(3,Tv.sv (Sv.one (At.ptr 8 0))),(2,Tv.sv (Sv.one (At.ptr 0 0)))] [(0,0,At.bool false),(0,1,At.words true []),(0,2,At.int .i64 0),(0,3,At.bool false),(0,4,At.words true []),(0,5,At.int .i64 0),(8,0,At.bool v3.lo.neg),(8,1,At.words false v3.lo.xs),(8,2,At.int .i64 v3.lo.e),(8,3,At.bool v3.hi.neg),(8,4,At.words false v3.hi.xs),(8,5,At.int .i64 v3.hi.e)] 11) (inR ((3:Int)+1)∧true=true∧Sg.mk [(0,Tv.sv (Sv.one (At.rows false 3 4 (At.bool a.neg :: At.words false a.xs :: At.int .i64 a.e :: At.bool b.neg :: At.words false b.xs :: At.int .i64 b.e :: ivL false (Vx.mk c d))))),(4,iT ((3:Int)+1)),(3,Tv.sv (Sv.one (At.ptr 8 0))),(2,Tv.sv (Sv.one (At.ptr 0 0)))] [(0,0,At.bool false),(0,1,At.words true []),(0,2,At.int .i64 0),(0,3,At.bool false),(0,4,At.words true []),(0,5,At.int .i64 0),(8,0,At.bool v2.lo.neg),(8,1,At.words false v2.lo.xs),(8,2,At.int .i64 v2.lo.e),(8,3,At.bool v2.hi.neg),(8,4,At.words false v2.hi.xs),(8,5,At.int .i64 v2.hi.e)] 11=Sg.mk [(0,Tv.sv (Sv.one (At.rows false 3 4 (At.bool a.neg :: At.words false a.xs :: At.int .i64 a.e :: At.bool b.neg :: At.words false b.xs :: At.int .i64 b.e :: ivL false (Vx.mk c d))))),(4,iT 4),(3,Tv.sv (Sv.one (At.ptr 8 0))),(2,Tv.sv (Sv.one (At.ptr 0 0)))] [(0,0,At.bool false),(0,1,At.words true []),(0,2,At.int .i64 0),(0,3,At.bool false),(0,4,At.words true []),(0,5,At.int .i64 0),(8,0,At.bool v3.lo.neg),(8,1,At.words false v3.lo.xs),(8,2,At.int .i64 v3.lo.e),(8,3,At.bool v3.hi.neg),(8,4,At.words false v3.hi.xs),(8,5,At.int .i64 v3.hi.e)] 11)))∧Q (Tv.sv (Sv.agg (ivL false v3)))∧True):=by kernel_rfl
theorem spanR{v:Vx}{d:Dx}{p:Vx→Prop}{N M:Nat}(hv:v.Sm N)(hd:d.Sm N)(hN:N≤M)(h:p (spanS v d)){I R:Prop}(hI:I)(hR:R){q1 q2 q3 q4:Prop}(h1:p ⟨d,d⟩→q1)(h2:p ⟨d,v.hi⟩→q2)(h3:p ⟨v.lo,d⟩→q3)(h4:p v→q4) :
    I∧(Dx.Sm M d∧Dx.Sm M v.lo)∧true=true∧br (ltI (cmpD d v.lo) 0) (I∧I∧(Dx.Sm M d∧Dx.Sm M v.hi)∧true=true∧br (ltI 0 (cmpD d v.hi)) (I∧R∧true=true∧q1) (R∧true=true∧q2)) (I∧(Dx.Sm M d∧Dx.Sm M v.hi)∧true=true∧br (ltI 0 (cmpD d v.hi)) (I∧R∧true=true∧q3) (R∧true=true∧q4)):=by
  have a:=hd.mono hN
  have b:=hv.1.mono hN
  have c:=hv.2.mono hN
  refine ⟨hI,⟨a,b⟩,rfl,br_intro (fun e1=>⟨hI,hI,⟨a,c⟩,rfl,br_intro (fun e2=>⟨hI,hR,rfl,h1 ?_⟩) fun e2=>⟨hR,rfl,h2 ?_⟩⟩) fun e1=>⟨hI,⟨a,c⟩,rfl,br_intro (fun e2=>⟨hI,hR,rfl,h3 ?_⟩) fun e2=>⟨hR,rfl,h4 ?_⟩⟩⟩
  · rwa [spanS,if_pos (ltI_true.1 e1),if_pos (ltI_true.1 e2)] at h
  · rwa [spanS,if_pos (ltI_true.1 e1),if_neg (ltI_false.1 e2)] at h
  · rwa [spanS,if_neg (ltI_false.1 e1),if_pos (ltI_true.1 e2)] at h
  · rwa [spanS,if_neg (ltI_false.1 e1),if_neg (ltI_false.1 e2)] at h
def gSpan:Spec:=fun l=>match l with
  | [.one (.rows false 3 4 [.bool n1,.words false x1,.int .i64 e1,.bool n2,.words false x2,.int .i64 e2,.bool n3,.words false x3,.int .i64 e3,.bool n4,.words false x4,.int .i64 e4])] =>
    (some (Dx.Sm 34359738368 ⟨n1,x1,e1⟩∧Dx.Sm 34359738368 ⟨n2,x2,e2⟩∧Dx.Sm 34359738368 ⟨n3,x3,e3⟩∧Dx.Sm 34359738368 ⟨n4,x4,e4⟩),vF (spanL ⟨n1,x1,e1⟩ [⟨n2,x2,e2⟩,⟨n3,x3,e3⟩,⟨n4,x4,e4⟩]))
  | _=>noSpec
theorem gSpan_ok:SpecOk Tryz.prog 69 gSpan :=
  specOk_at (envOk tys2_ok sRef4_ok) mixed Tryz.func69 rfl (by decide) 1 (by decide) fun l p t e hp=>by
    unfold gSpan at e
    split at e
    · rename_i n1 x1 e1 n2 x2 e2 n3 x3 e3 n4 x4 e4
      cases e
      obtain ⟨s1,s2,s3,s4⟩:=hp
      refine ⟨Nat.le_refl 1,_,0,(gSpan_vc ⟨n1,x1,e1⟩ ⟨n2,x2,e2⟩ ⟨n3,x3,e3⟩ ⟨n4,x4,e4⟩ (spanL ⟨n1,x1,e1⟩ [⟨n2,x2,e2⟩]) (spanL ⟨n1,x1,e1⟩ [⟨n2,x2,e2⟩,⟨n3,x3,e3⟩]) (spanL ⟨n1,x1,e1⟩ [⟨n2,x2,e2⟩,⟨n3,x3,e3⟩,⟨n4,x4,e4⟩]) _).mpr ?_⟩
      have t2:Vx.Sm 34359738368 (spanL ⟨n1,x1,e1⟩ [⟨n2,x2,e2⟩]):=spanS_sm ⟨s1,s1⟩ s2
      have t3:Vx.Sm 34359738368 (spanL ⟨n1,x1,e1⟩ [⟨n2,x2,e2⟩,⟨n3,x3,e3⟩]):=spanS_sm t2 s3
      refine ⟨⟨by omega,by omega⟩,⟨by omega,by omega⟩,rfl,rfl,rfl,?_,?_,?_,rfl,trivial⟩
      · refine spanR (p:=fun v=>spanL ⟨n1,x1,e1⟩ [⟨n2,x2,e2⟩]=v) ⟨s1,s1⟩ s2 (by omega) rfl ⟨by omega,by omega⟩ ⟨by omega,by omega⟩ ?_ ?_ ?_ ?_<;>exact fun e=>by rw [e];rfl
      · refine spanR (p:=fun v=>spanL ⟨n1,x1,e1⟩ [⟨n2,x2,e2⟩,⟨n3,x3,e3⟩]=v) t2 s3 (by omega) rfl ⟨by omega,by omega⟩ ⟨by omega,by omega⟩ ?_ ?_ ?_ ?_<;>exact fun e=>by rw [e];rfl
      · refine spanR (p:=fun v=>spanL ⟨n1,x1,e1⟩ [⟨n2,x2,e2⟩,⟨n3,x3,e3⟩,⟨n4,x4,e4⟩]=v) t3 s4 (by omega) rfl ⟨by omega,by omega⟩ ⟨by omega,by omega⟩ ?_ ?_ ?_ ?_<;>exact fun e=>by rw [e];rfl
    · cases e;exact hp.elim
def sGs:List (FuncId×Spec):=[(69,gSpan),(67,fTimes),(66,fPlus),(68,gTrim)]
theorem sGs_ok:SpecsOk Tryz.prog sGs:=⟨gSpan_ok,fTimes_ok,fPlus_ok,gTrim_ok,trivial⟩
theorem gTimes_vc(v u:Vx)(p:Int)(Q:Tv→Prop):execF ⟨tys2,sGs⟩ (fun _=>none) 0 Tryz.f43 [.agg (ivL false v),.agg (ivL false u),.one (.int .i64 p)] Q=((Dx.Sm 68719476736 v.lo∧Dx.Sm 68719476736 u.lo)∧(Dx.Sm 68719476736 v.lo∧Dx.Sm 68719476736 u.hi)∧(Dx.Sm 68719476736 v.hi∧Dx.Sm 68719476736 u.lo)∧(Dx.Sm 68719476736 v.hi∧Dx.Sm 68719476736 u.hi)∧true=true∧(Dx.Sm 34359738368 (timesD v.lo u.lo)∧Dx.Sm 34359738368 (timesD v.lo u.hi)∧Dx.Sm 34359738368 (timesD v.hi u.lo)∧Dx.Sm 34359738368 (timesD v.hi u.hi))∧(Vx.Sm 34359738368 (spanL (timesD v.lo u.lo) [timesD v.lo u.hi,timesD v.hi u.lo,timesD v.hi u.hi])∧(0:Int)≤p∧p≤1099511627776)∧Q (Tv.sv (Sv.agg (ivL true (trimV (spanL (timesD v.lo u.lo) [timesD v.lo u.hi,timesD v.hi u.lo,timesD v.hi u.hi]) p))))):=by kernel_rfl
def gTimes:Spec:=specK [.v,.v,.i .i64] fun (v:Vx) (u:Vx) (p:Int)=>(some (v.Sm 268435456∧u.Sm 268435456∧0≤p∧p≤1099511627776),vT (timesV v u p))
theorem gTimes_ok:SpecOk Tryz.prog 43 gTimes :=
  specK_ok (envOk tys2_ok sGs_ok) mixed Tryz.func43 rfl (by decide) (by decide) fun (v:Vx) hv (u:Vx) hu (p:Int) _ hp=>⟨fun _=>none,0,by
    obtain ⟨sv,su,p0,p1⟩:v.Sm 268435456∧u.Sm 268435456∧0≤p∧p≤1099511627776:=hp
    have v1:=Dx.Wf.m0 hv.1
    have v2:=Dx.Wf.m0 hv.2
    have u1:=Dx.Wf.m0 hu.1
    have u2:=Dx.Wf.m0 hu.2
    have sz:∀ {a b:Dx},0≤a.m→0≤b.m→a.Sm 268435456→b.Sm 268435456→(timesD a b).Sm 34359738368:=fun ha hb sa sb=>(timesD_sm ha hb sa sb).mono (by omega)
    have sm:∀ {a:Dx},a.Sm 268435456→a.Sm 68719476736:=fun h=>h.mono (by omega)
    exact (gTimes_vc v u p _).mpr ⟨⟨sm sv.1,sm su.1⟩,⟨sm sv.1,sm su.2⟩,⟨sm sv.2,sm su.1⟩,⟨sm sv.2,sm su.2⟩,rfl,⟨sz v1 u1 sv.1 su.1,sz v1 u2 sv.1 su.2,sz v2 u1 sv.2 su.1,sz v2 u2 sv.2 su.2⟩,⟨(prodV_sm (Vx.Wf.p hv) (Vx.Wf.p hu) sv su).mono (by omega),p0,p1⟩,rfl⟩⟩
def sG3:List (FuncId×Spec):=[(43,gTimes)] ++ sG2
theorem sG3_ok:SpecsOk Tryz.prog sG3:=⟨gTimes_ok,sG2_ok⟩
def sAlt:List (FuncId×Spec):=[(54,rPoint),(53,rTimes),(50,rTrim),(88,seFrom),(90,seOne),(89,seSumA),(94,seWid),(95,seSub),(96,seIval)]
theorem sAlt_ok:SpecsOk Tryz.prog sAlt:=⟨rPoint_ok,rTimes_ok,rTrim_ok,seFrom_ok,seOne_ok,seSumA_ok,seWid_ok,seSub_ok,seIval_ok,trivial⟩
theorem rAlt_vc(t:Dx)(f w:Int)(Q:Tv→Prop):execF ⟨tys4,sAlt⟩ (fun _=>none) 0 Tryz.f55 [.agg (dyL false t),.one (.int .i64 f),.one (.int .i64 w)] Q=(eB 4611686018427387904 t∧eB 4611686018427387904 t∧inR (w+8)∧(Vx.Sm 268435456 (pointV t)∧Vx.Sm 268435456 (pointV t)∧(0:Int)≤w+8∧w+8≤1099511627776)∧inR (w+8)∧(Vx.Sm 34359738368 (timesV (pointV t) (pointV t) (w+8))∧(0:Int)≤w+8∧w+8≤1099511627776)∧(Vx.Sm 268435456 (trimV (timesV (pointV t) (pointV t) (w+8)) (w+8))∧(0:Int)≤w∧w≤16777216∧(0:Int)≤(fromF (trimV (timesV (pointV t) (pointV t) (w+8)) (w+8)) w).e∧(fromF (trimV (timesV (pointV t) (pointV t) (w+8)) (w+8)) w).e≤1099511627776)∧true=true∧((0:Int)≤w∧w≤16777216)∧((91:Nat)=(91:FuncId)∧(fw (Fx.mk ((2:Int)^Int.toNat w) 0)).xs=ws (val (fw (Fx.mk ((2:Int)^Int.toNat w) 0)).xs)∧(fw (fromF (trimV (timesV (pointV t) (pointV t) (w+8)) (w+8)) w)).xs=ws (val (fw (fromF (trimV (timesV (pointV t) (pointV t) (w+8)) (w+8)) w)).xs)∧altSumOk f (Fx.mk (val (fw (fromF (trimV (timesV (pointV t) (pointV t) (w+8)) (w+8)) w)).xs) (fw (fromF (trimV (timesV (pointV t) (pointV t) (w+8)) (w+8)) w)).e) w (Fx.mk (val (fw (Fx.mk ((2:Int)^Int.toNat w) 0)).xs) (fw (Fx.mk ((2:Int)^Int.toNat w) 0)).e))∧((0:Int)≤0∧(0:Int)<(↑(2:Nat):Int))∧((0:Int)≤1∧(1:Int)<(↑(2:Nat):Int))∧((0:Int)≤0∧(0:Int)<(↑(2:Nat):Int))∧(Fw.Ok (fw (altSumR f (Fx.mk (val (fw (fromF (trimV (timesV (pointV t) (pointV t) (w+8)) (w+8)) w)).xs) (fw (fromF (trimV (timesV (pointV t) (pointV t) (w+8)) (w+8)) w)).e) w (Fx.mk (val (fw (Fx.mk ((2:Int)^Int.toNat w) 0)).xs) (fw (Fx.mk ((2:Int)^Int.toNat w) 0)).e) 0))∧(0:Int)≤4∧(4:Int)≤1099511627776∧(fw (altSumR f (Fx.mk (val (fw (fromF (trimV (timesV (pointV t) (pointV t) (w+8)) (w+8)) w)).xs) (fw (fromF (trimV (timesV (pointV t) (pointV t) (w+8)) (w+8)) w)).e) w (Fx.mk (val (fw (Fx.mk ((2:Int)^Int.toNat w) 0)).xs) (fw (Fx.mk ((2:Int)^Int.toNat w) 0)).e) 0)).xs=ws (val (fw (altSumR f (Fx.mk (val (fw (fromF (trimV (timesV (pointV t) (pointV t) (w+8)) (w+8)) w)).xs) (fw (fromF (trimV (timesV (pointV t) (pointV t) (w+8)) (w+8)) w)).e) w (Fx.mk (val (fw (Fx.mk ((2:Int)^Int.toNat w) 0)).xs) (fw (Fx.mk ((2:Int)^Int.toNat w) 0)).e) 0)).xs))∧((0:Int)≤1∧(1:Int)<(↑(2:Nat):Int))∧(Fw.Ok (fw (altSumR f (Fx.mk (val (fw (fromF (trimV (timesV (pointV t) (pointV t) (w+8)) (w+8)) w)).xs) (fw (fromF (trimV (timesV (pointV t) (pointV t) (w+8)) (w+8)) w)).e) w (Fx.mk (val (fw (Fx.mk ((2:Int)^Int.toNat w) 0)).xs) (fw (Fx.mk ((2:Int)^Int.toNat w) 0)).e) 1))∧(0:Int)≤4∧(4:Int)≤1099511627776∧(fw (altSumR f (Fx.mk (val (fw (fromF (trimV (timesV (pointV t) (pointV t) (w+8)) (w+8)) w)).xs) (fw (fromF (trimV (timesV (pointV t) (pointV t) (w+8)) (w+8)) w)).e) w (Fx.mk (val (fw (Fx.mk ((2:Int)^Int.toNat w) 0)).xs) (fw (Fx.mk ((2:Int)^Int.toNat w) 0)).e) 1)).xs=ws (val (fw (altSumR f (Fx.mk (val (fw (fromF (trimV (timesV (pointV t) (pointV t) (w+8)) (w+8)) w)).xs) (fw (fromF (trimV (timesV (pointV t) (pointV t) (w+8)) (w+8)) w)).e) w (Fx.mk (val (fw (Fx.mk ((2:Int)^Int.toNat w) 0)).xs) (fw (Fx.mk ((2:Int)^Int.toNat w) 0)).e) 1)).xs))∧(Fw.Ok (fw (widerF (Fw.f (fw (altSumR f (Fx.mk (val (fw (fromF (trimV (timesV (pointV t) (pointV t) (w+8)) (w+8)) w)).xs) (fw (fromF (trimV (timesV (pointV t) (pointV t) (w+8)) (w+8)) w)).e) w (Fx.mk (val (fw (Fx.mk ((2:Int)^Int.toNat w) 0)).xs) (fw (Fx.mk ((2:Int)^Int.toNat w) 0)).e) 0))) 4))∧Fw.Ok (fw (widerF (Fw.f (fw (altSumR f (Fx.mk (val (fw (fromF (trimV (timesV (pointV t) (pointV t) (w+8)) (w+8)) w)).xs) (fw (fromF (trimV (timesV (pointV t) (pointV t) (w+8)) (w+8)) w)).e) w (Fx.mk (val (fw (Fx.mk ((2:Int)^Int.toNat w) 0)).xs) (fw (Fx.mk ((2:Int)^Int.toNat w) 0)).e) 1))) 4))∧(Fw.f (fw (widerF (Fw.f (fw (altSumR f (Fx.mk (val (fw (fromF (trimV (timesV (pointV t) (pointV t) (w+8)) (w+8)) w)).xs) (fw (fromF (trimV (timesV (pointV t) (pointV t) (w+8)) (w+8)) w)).e) w (Fx.mk (val (fw (Fx.mk ((2:Int)^Int.toNat w) 0)).xs) (fw (Fx.mk ((2:Int)^Int.toNat w) 0)).e) 1))) 4))).a+(Fw.f (fw (widerF (Fw.f (fw (altSumR f (Fx.mk (val (fw (fromF (trimV (timesV (pointV t) (pointV t) (w+8)) (w+8)) w)).xs) (fw (fromF (trimV (timesV (pointV t) (pointV t) (w+8)) (w+8)) w)).e) w (Fx.mk (val (fw (Fx.mk ((2:Int)^Int.toNat w) 0)).xs) (fw (Fx.mk ((2:Int)^Int.toNat w) 0)).e) 1))) 4))).e≤(Fw.f (fw (widerF (Fw.f (fw (altSumR f (Fx.mk (val (fw (fromF (trimV (timesV (pointV t) (pointV t) (w+8)) (w+8)) w)).xs) (fw (fromF (trimV (timesV (pointV t) (pointV t) (w+8)) (w+8)) w)).e) w (Fx.mk (val (fw (Fx.mk ((2:Int)^Int.toNat w) 0)).xs) (fw (Fx.mk ((2:Int)^Int.toNat w) 0)).e) 0))) 4))).a)∧(Fw.Ok (fw (subF (Fw.f (fw (widerF (Fw.f (fw (altSumR f (Fx.mk (val (fw (fromF (trimV (timesV (pointV t) (pointV t) (w+8)) (w+8)) w)).xs) (fw (fromF (trimV (timesV (pointV t) (pointV t) (w+8)) (w+8)) w)).e) w (Fx.mk (val (fw (Fx.mk ((2:Int)^Int.toNat w) 0)).xs) (fw (Fx.mk ((2:Int)^Int.toNat w) 0)).e) 0))) 4))) (Fw.f (fw (widerF (Fw.f (fw (altSumR f (Fx.mk (val (fw (fromF (trimV (timesV (pointV t) (pointV t) (w+8)) (w+8)) w)).xs) (fw (fromF (trimV (timesV (pointV t) (pointV t) (w+8)) (w+8)) w)).e) w (Fx.mk (val (fw (Fx.mk ((2:Int)^Int.toNat w) 0)).xs) (fw (Fx.mk ((2:Int)^Int.toNat w) 0)).e) 1))) 4)))))∧(0:Int)≤w∧w≤16777216)∧true=true∧Q (Tv.sv (Sv.agg (ivL true (ivF (Fw.f (fw (subF (Fw.f (fw (widerF (Fw.f (fw (altSumR f (Fx.mk (val (fw (fromF (trimV (timesV (pointV t) (pointV t) (w+8)) (w+8)) w)).xs) (fw (fromF (trimV (timesV (pointV t) (pointV t) (w+8)) (w+8)) w)).e) w (Fx.mk (val (fw (Fx.mk ((2:Int)^Int.toNat w) 0)).xs) (fw (Fx.mk ((2:Int)^Int.toNat w) 0)).e) 0))) 4))) (Fw.f (fw (widerF (Fw.f (fw (altSumR f (Fx.mk (val (fw (fromF (trimV (timesV (pointV t) (pointV t) (w+8)) (w+8)) w)).xs) (fw (fromF (trimV (timesV (pointV t) (pointV t) (w+8)) (w+8)) w)).e) w (Fx.mk (val (fw (Fx.mk ((2:Int)^Int.toNat w) 0)).xs) (fw (Fx.mk ((2:Int)^Int.toNat w) 0)).e) 1))) 4)))))) w))))):=by kernel_rfl
theorem widerF_2(x:Fx)(a b:Int):widerF (widerF x a) b=widerF x (a+b):=by
  show (⟨x.a,x.e+a+b⟩:Fx)=⟨x.a,x.e+(a+b)⟩
  rw [Int.add_assoc]
theorem pointV_sm{t:Dx}{N:Nat}(ht:0≤t.m)(h:t.Sm N):(pointV t).Sm (N+N):=⟨one_sm ht h,one_sm ht h⟩
theorem trimV_sm{v:Vx}{N:Nat}{p:Int}(hv:v.P)(h:v.Sm N)(hp:0≤p):(trimV v p).Sm (6*N+1):=⟨cutD_sm hv.1 h.1 hp,cutD_sm hv.2 h.2 hp⟩
theorem timesV_sm{v u:Vx}{N:Nat}{p:Int}(hv:v.P)(hu:u.P)(sv:v.Sm N)(su:u.Sm N)(hp:0≤p):(timesV v u p).Sm (24*N+1) :=
  (trimV_sm (prodV_p v u) (prodV_sm hv hu sv su) hp).mono (by omega)
theorem altSum_parts{f:Nat}{sq:Fx}{w:Int}{x:Rat}(h:Alt f sq w x) :
    (altSumR f sq w ⟨2^w.toNat,0⟩ 0).Ok∧(altSumR f sq w ⟨2^w.toNat,0⟩ 1).Ok∧(widerF (altSumR f sq w ⟨2^w.toNat,0⟩ 0) 4).Ok∧(widerF (altSumR f sq w ⟨2^w.toNat,0⟩ 1) 4).Ok ∧
      subF (widerF (altSumR f sq w ⟨2^w.toNat,0⟩ 0) 4) (widerF (altSumR f sq w ⟨2^w.toNat,0⟩ 1) 4)=altD f sq w (altK f sq w) ((altT f sq w (altK f sq w)).e+8):=by
  obtain ⟨k1,k2,k3,k4⟩:=altK_spec h
  have e0:=(altT_in h (altK f sq w)).e0
  have e1:=altT_e h (altK f sq w)
  have hw:=h.w1
  have o0:=altM_ok h 0 (k:=altK f sq w) (by omega)
  have o1:=altM_ok h 1 (k:=altK f sq w) (by omega)
  have m0:=altM_e h 0 (altK f sq w)
  have m1:=altM_e h 1 (altK f sq w)
  have ok:∀ {z:Fx} {c:Int},z.Ok→z.e≤2097152→0≤c→c≤32→(widerF z c).Ok:=fun hz he c0 c1=>⟨hz.1,hz.2.1,show 0≤_+_ by have:=hz.2.2.1;omega,show _+_≤_ by omega⟩
  have d0:altSumR f sq w ⟨2^w.toNat,0⟩ 0=widerF (altM f sq w 0 (altK f sq w)) ((altT f sq w (altK f sq w)).e+4):=rfl
  have d1:altSumR f sq w ⟨2^w.toNat,0⟩ 1=widerF (altM f sq w 1 (altK f sq w)) ((altT f sq w (altK f sq w)).e+4):=rfl
  rw [d0,d1,widerF_2,widerF_2]
  refine ⟨ok o0 (by omega) (by omega) (by omega),ok o1 (by omega) (by omega) (by omega),ok o0 (by omega) (by omega) (by omega),ok o1 (by omega) (by omega) (by omega),?_⟩
  rw [Int.add_assoc];rfl
def small1(t:Dx):Prop:=t.rv≤1∧-1≤t.rv
def rAlt:Spec:=specK [.d,.i .i64,.i .i64] fun (t:Dx) (f:Int) (w:Int)=>(some (t.Sm 131072∧small1 t∧1≤f∧f≤2∧32≤w∧w≤65536),vT (altV f.toNat t w))
theorem rAlt_ok:SpecOk Tryz.prog 55 rAlt :=
  specK_ok (envOk tys4_ok sAlt_ok) mixed Tryz.func55 rfl (by decide) (by decide) fun (t:Dx) ht (f:Int) _ (w:Int) _ hp=>⟨fun _=>none,0,by
    obtain ⟨st,⟨t1,t2⟩,f1,f2,w0,w1⟩:t.Sm 131072∧small1 t∧1≤f∧f≤2∧32≤w∧w≤65536:=hp
    obtain ⟨n,rfl⟩:∃ n:Nat,f=n:=⟨f.toNat,by omega⟩
    have m0:=Dx.Wf.m0 ht
    have A:=sqS_alt m0 t1 t2 (f:=n) (by omega) (by omega) w0 w1
    have so:=A.sqOk
    have z1:=pointV_sm m0 st
    have z2:=timesV_sm (pointV_p t) (pointV_p t) z1 z1 (p:=w+8) (by omega)
    have z3:=trimV_sm (trimV_p _ _) z2 (p:=w+8) (by omega)
    obtain ⟨b1,b2,b3,b4⟩:=altD_bd A (altK_spec A).1 (by have:=(altK_spec A).2.1;omega) (c:=(altT n (sqS t w) w (altK n (sqS t w) w)).e+8) (by have:=(altT_in A (altK n (sqS t w) w)).e0;omega) (by have:=altT_e A (altK n (sqS t w) w);omega)
    obtain ⟨o0,o1,p0,p1,d⟩:=altSum_parts A
    have pw:=two_pow_pos w.toNat
    have k1:Fx.mk (val (fw (fromF (trimV (timesV (pointV t) (pointV t) (w+8)) (w+8)) w)).xs) (fw (fromF (trimV (timesV (pointV t) (pointV t) (w+8)) (w+8)) w)).e=sqS t w:=fw_f so.1
    have k2:Fx.mk (val (fw (Fx.mk ((2:Int)^w.toNat) 0)).xs) (fw (Fx.mk ((2:Int)^w.toNat) 0)).e=⟨2^w.toNat,0⟩:=fw_f (by show 0≤(2:Int)^w.toNat;omega)
    have xs:∀ z:Fx,0≤z.a→(fw z).xs=ws (val (fw z).xs):=fun z hz=>by show ws z.a=ws (val (ws z.a));rw [val_ws hz]
    show execF _ _ _ _ _ (fun t'=>t'=vT (altV n t w))
    refine (rAlt_vc t n w _).mpr ?_
    rw [k1,k2]
    have ok:=altSum_ok A so
    have e0:0≤(sqS t w).e∧(sqS t w).e≤16:=⟨A.hsq.e0,A.he⟩
    generalize altSumR n (sqS t w) w ⟨2^w.toNat,0⟩ 0=a0 at *
    generalize altSumR n (sqS t w) w ⟨2^w.toNat,0⟩ 1=a1 at *
    have le:(widerF a1 4).a+(widerF a1 4).e≤(widerF a0 4).a:=by
      have:(subF (widerF a0 4) (widerF a1 4)).a=(widerF a0 4).a-((widerF a1 4).a+(widerF a1 4).e):=rfl
      rw [d] at this;omega
    have od:(subF (widerF a0 4) (widerF a1 4)).Ok:=by
      rw [d]
      have:blen (altD n (sqS t w) w (altK n (sqS t w) w) ((altT n (sqS t w) w (altK n (sqS t w) w)).e+8)).a≤w.toNat+1+1+1:=blen_pow_le (by rw [Int.pow_succ,Int.pow_succ];omega)
      exact ⟨by omega,by omega,by omega,by omega⟩
    rw [fw_f o0.1,fw_f o1.1,fw_f p0.1,fw_f p1.1,fw_f od.1]
    have pt:eB 4611686018427387904 t:=st.eB (by omega)
    exact ⟨pt,pt,⟨by omega,by omega⟩,⟨z1.mono (by omega),z1.mono (by omega),by omega,by omega⟩,⟨by omega,by omega⟩,⟨z2.mono (by omega),by omega,by omega⟩,⟨z3.mono (by omega),by omega,by omega,e0.1,by have:=e0.2;show (sqS t w).e≤_;omega⟩,rfl,⟨by omega,by omega⟩,
      ⟨rfl,xs _ (by show 0≤(2:Int)^w.toNat;omega),xs _ so.1,ok⟩,⟨by omega,by omega⟩,⟨by omega,by omega⟩,⟨by omega,by omega⟩,⟨o0.w,by omega,by omega,xs _ o0.1⟩,⟨by omega,by omega⟩,⟨o1.w,by omega,by omega,xs _ o1.1⟩,⟨p0.w,p1.w,le⟩,⟨od.w,by omega,by omega⟩,rfl,by rw [d];rfl⟩⟩
theorem AltIv.sm{f:Nat}{t:Dx}{w:Int}{v:Vx}(h:AltIv f t w v)(w0:0≤w)(w1:w≤65536):v.Sm 262144:=by
  obtain ⟨a,b,a0,a1,b0,b1,rfl⟩:=h.bits
  have k:∀ n:Int,n≤3*2^w.toNat→blen n≤w.toNat+1+1+1:=fun n hn=>blen_pow_le (by rw [Int.pow_succ,Int.pow_succ];have:=two_pow_pos w.toNat;omega)
  exact ⟨(mkD_sm (M:=65536) a0 (k a a1) (by omega) (by omega)).mono (by omega),(mkD_sm (M:=65536) b0 (k b b1) (by omega) (by omega)).mono (by omega)⟩
def sSin:List (FuncId×Spec):=[(55,rAlt),(49,rInt)] ++ sRaw8
theorem sSin_ok:SpecsOk Tryz.prog sSin:=⟨rAlt_ok,rInt_ok,sRaw8_ok⟩
def sineV(t:Dx)(p:Int):Vx:=if t.zeroB=true then zeroIv else timesV (trimV (pointV t) (p+64)) (altV 2 t (p+64)) (p+64)
def cosineV(t:Dx)(p:Int):Vx:=if t.zeroB=true then pointV (mkS 1 0) else altV 1 t (p+64)
def rSine:Spec:=specK [.d,.i .i64] fun (t:Dx) (p:Int)=>(some (t.Sm 131072∧small1 t∧0≤p∧p≤60000),vF (sineV t p))
theorem rSine_vc(t:Dx)(p:Int)(Q:Tv→Prop):execF ⟨tys4,sSin⟩ (fun _=>none) 0 Tryz.f21 [.agg (dyL false t),.one (.int .i64 p)] Q=(br (Dx.zeroB t) (Q (Tv.sv (Sv.agg [At.bool false,At.words true [],At.int .i64 0,At.bool false,At.words true [],At.int .i64 0]))) (inR (p+64)∧eB 4611686018427387904 t∧(Vx.Sm 34359738368 (pointV t)∧(0:Int)≤p+64∧p+64≤1099511627776)∧(Dx.Sm 131072 t∧small1 t∧(1:Int)≤2∧(2:Int)≤2∧(32:Int)≤p+64∧p+64≤65536)∧(Vx.Sm 268435456 (trimV (pointV t) (p+64))∧Vx.Sm 268435456 (altV 2 t (p+64))∧(0:Int)≤p+64∧p+64≤1099511627776)∧true=true∧Q (Tv.sv (Sv.agg (ivL true (timesV (trimV (pointV t) (p+64)) (altV 2 t (p+64)) (p+64))))))):=by kernel_rfl
theorem altV_sm{t:Dx}{f:Nat}{w:Int}(ht:0≤t.m)(h:small1 t)(f1:1≤f)(f2:f≤2)(w0:32≤w)(w1:w≤65536):(altV f t w).Sm 262144 :=
  (altV_iv (sqS_alt ht h.1 h.2 f1 f2 w0 w1)).sm (by omega) w1
theorem rSine_ok:SpecOk Tryz.prog 21 rSine :=
  specKW_ok (envOk tys4_ok sSin_ok) mixed Tryz.func21 rfl (by decide) (by decide) fun (t:Dx) ht (p:Int) _ hp=>⟨fun _=>none,0,by
    obtain ⟨st,h1,p0,p1⟩:t.Sm 131072∧small1 t∧0≤p∧p≤60000:=hp
    have m0:=Dx.Wf.m0 ht
    have z1:=pointV_sm m0 st
    have z2:=trimV_sm (pointV_p t) z1 (p:=p+64) (by omega)
    have z3:=altV_sm m0 h1 (f:=2) (w:=p+64) (by omega) (by omega) (by omega) (by omega)
    show execF _ _ _ _ _ (fun t'=>t'=vF (sineV t p)∨fgT t'=vF (sineV t p))
    refine (rSine_vc t p _).mpr (br_intro (fun h=>.inr ?_) fun h=>⟨⟨by omega,by omega⟩,st.eB (by omega),⟨z1.mono (by omega),by omega,by omega⟩,⟨st,h1,by omega,by omega,by omega,by omega⟩,⟨z2.mono (by omega),z3.mono (by omega),by omega,by omega⟩,rfl,.inr ?_⟩)
    · rw [sineV,if_pos h];rfl
    · rw [sineV,if_neg (by rw [h];simp)];rfl⟩
def rCosine:Spec:=specK [.d,.i .i64] fun (t:Dx) (p:Int)=>(some (t.Sm 131072∧small1 t∧0≤p∧p≤60000),vT (cosineV t p))
theorem rCosine_vc(t:Dx)(p:Int)(Q:Tv→Prop):execF ⟨tys4,sSin⟩ (fun _=>none) 0 Tryz.f23 [.agg (dyL false t),.one (.int .i64 p)] Q=(br (Dx.zeroB t) (inR 1∧eB 4611686018427387904 (mkS 1 0)∧Q (Tv.sv (Sv.agg (ivL true (pointV (mkS 1 0)))))) (inR (p+64)∧(Dx.Sm 131072 t∧small1 t∧(1:Int)≤1∧(1:Int)≤2∧(32:Int)≤p+64∧p+64≤65536)∧Q (Tv.sv (Sv.agg (ivL true (altV 1 t (p+64))))))):=by kernel_rfl
theorem mkS_sm6{n:Int}(h:n.natAbs≤16):(mkS n 0).Sm 5:=(mkS_sm (N:=5) (M:=0) (blen_le (by omega)) (by omega) (by omega)).mono (by omega)
theorem one_eB:eB 4611686018427387904 (mkS 1 0):=(mkS_sm6 (by omega)).eB (by omega)
theorem rCosine_ok:SpecOk Tryz.prog 23 rCosine :=
  specK_ok (envOk tys4_ok sSin_ok) mixed Tryz.func23 rfl (by decide) (by decide) fun (t:Dx) ht (p:Int) _ hp=>⟨fun _=>none,0,by
    obtain ⟨st,h1,p0,p1⟩:t.Sm 131072∧small1 t∧0≤p∧p≤60000:=hp
    show execF _ _ _ _ _ (fun t'=>t'=vT (cosineV t p))
    refine (rCosine_vc t p _).mpr (br_intro (fun h=>⟨⟨by omega,by omega⟩,one_eB,?_⟩) fun h=>⟨⟨by omega,by omega⟩,⟨st,h1,by omega,by omega,by omega,by omega⟩,?_⟩)
    · rw [cosineV,if_pos h]
    · rw [cosineV,if_neg (by rw [h];simp)]⟩
def tyNum:TyRow:=⟨83,3,true,zD,.struct [(0,1,false),(1,1,false),(2,1,false)]⟩
theorem tyN_ok:RowsOk Tryz.prog (tyNum :: tys4):=⟨by kernel_rfl,tys4_ok⟩
def dRight:Spec:=specK [.d] fun (d:Dx)=>(none,bT d.fitsB)
theorem dRight_vc(d:Dx)(Q:Tv→Prop):execF ⟨tyNum :: tys4,sRaw8⟩ (fun _=>none) 0 Tryz.f78 [.agg (dyL false d)] Q=(Q (bT (Dx.fitsB d))):=by kernel_rfl
theorem dRight_ok:SpecOk Tryz.prog 78 dRight :=
  specK_ok (envOk tyN_ok sRaw8_ok) mixed Tryz.func78 rfl (by decide) (by decide) fun (d:Dx) _ _=>⟨fun _=>none,0,(dRight_vc d _).mpr rfl⟩
def chkD(d:Dx):Int:=if d.fitsB=true then 0 else 2
def dChk:Spec:=specK [.d] fun (d:Dx)=>(none,iT (chkD d))
theorem dChk_vc(d:Dx)(Q:Tv→Prop):execF ⟨tyNum :: tys4,[(78,dRight)]⟩ (fun _=>none) 0 Tryz.f46 [.agg (dyL false d)] Q=(br (!Dx.fitsB d) (Q (iT 2)) (Q (iT 0))):=by kernel_rfl
theorem dChk_ok:SpecOk Tryz.prog 46 dChk :=
  specK_ok (envOk (S:=[(78,dRight)]) tyN_ok ⟨dRight_ok,trivial⟩) mixed Tryz.func46 rfl (by decide) (by decide) fun (d:Dx) _ _=>⟨fun _=>none,0,by
    show execF _ _ _ _ _ (fun t=>t=iT (chkD d))
    refine (dChk_vc d _).mpr (br_intro (fun h=>?_) fun h=>?_)
    · rw [chkD,if_neg (by rw [not_true h];simp)]
    · rw [chkD,if_pos (not_false' h)]⟩
def cutR(v:Vx)(p:Int):Vx×Int:=if rightV (trimV v (p+8))=true then (trimV v (p+8),0) else (zeroIv,3)
def rCutV:Spec:=specK [.v,.i .i64] fun (v:Vx) (p:Int)=>(some (v.Sm 34359738368∧0≤p∧p≤1073741824),reT (cutR v p))
theorem rCutV_vc(v:Vx)(p:Int)(Q:Tv→Prop):execF ⟨tys4,sSin⟩ (fun _=>none) 0 Tryz.f20 [.agg (ivL false v),.one (.int .i64 p)] Q=(inR (p+8)∧(Vx.Sm 34359738368 v∧(0:Int)≤p+8∧p+8≤1099511627776)∧br (!rightV (trimV v (p+8))) (Q (Tv.tup [Sv.agg [At.bool false,At.words true [],At.int .i64 0,At.bool false,At.words true [],At.int .i64 0],Sv.one (At.int .i64 3)])) (Q (Tv.tup [Sv.agg (ivL true (trimV v (p+8))),Sv.one (At.int .i64 0)]))):=by kernel_rfl
theorem rCutV_ok:SpecOk Tryz.prog 20 rCutV :=
  specKW_ok (envOk tys4_ok sSin_ok) mixed Tryz.func20 rfl (by decide) (by decide) fun (v:Vx) _ (p:Int) _ hp=>⟨fun _=>none,0,by
    obtain ⟨sv,p0,p1⟩:v.Sm 34359738368∧0≤p∧p≤1073741824:=hp
    show execF _ _ _ _ _ (fun t=>t=reT (cutR v p)∨fgT t=reT (cutR v p))
    refine (rCutV_vc v p _).mpr ⟨⟨by omega,by omega⟩,⟨sv,by omega,by omega⟩,br_intro (fun h=>.inr ?_) fun h=>.inr ?_⟩
    · rw [cutR,if_neg (by rw [not_true h];simp)];rfl
    · rw [cutR,if_pos (not_false' h)];rfl⟩
def sSin2:List (FuncId×Spec):=[(21,rSine),(23,rCosine),(20,rCutV),(46,dChk),(24,vCk)] ++ sSin
theorem sSin2_ok:SpecsOk Tryz.prog sSin2:=⟨rSine_ok,rCosine_ok,rCutV_ok,dChk_ok,vCk_ok,sSin_ok⟩
def faultD(t:Dx)(p:Int):Int:=if chkD t=0∧8≤p∧p≤4096 then (if 0<cmpD (absD t) (mkS 1 0) then 5 else 0) else 2
def rFault:Spec:=specK [.d,.i .i64] fun (t:Dx) (p:Int)=>(none,iT (faultD t p))
theorem rFault_vc(t:Dx)(p:Int)(Q:Tv→Prop):execF ⟨tys4,sSin2⟩ (fun _=>none) 0 Tryz.f19 [.agg (dyL false t),.one (.int .i64 p)] Q=(br (neI (chkD t) 0) (Q (iT 2)) (br (ltI p 8) (Q (iT 2)) (br (ltI 4096 p) (Q (iT 2)) (((-4611686018427387904:Int)≤t.e∧t.e≤4611686018427387904)∧inR 1∧(Dx.Sm 68719476736 (absD t)∧Dx.Sm 68719476736 (mkS 1 0))∧br (ltI 0 (cmpD (absD t) (mkS 1 0))) (Q (iT 5)) (Q (iT 0)))))):=by kernel_rfl
theorem chk_fits{t:Dx}(h:chkD t=0):t.fitsB=true:=by
  unfold chkD at h;split at h
  · assumption
  · omega
theorem rFault_ok:SpecOk Tryz.prog 19 rFault :=
  specK_ok (envOk tys4_ok sSin2_ok) mixed Tryz.func19 rfl (by decide) (by decide) fun (t:Dx) ht (p:Int) _ _=>⟨fun _=>none,0,by
    have m0:=Dx.Wf.m0 ht
    show execF _ _ _ _ _ (fun t'=>t'=iT (faultD t p))
    refine (rFault_vc t p _).mpr (br_intro (fun h=>?_) fun h=>br_intro (fun h1=>?_) fun h1=>br_intro (fun h2=>?_) fun h2=>?_)
    · rw [faultD,if_neg (by have:=neI_true.1 h;omega)]
    · rw [faultD,if_neg (by have:=ltI_true.1 h1;omega)]
    · rw [faultD,if_neg (by have:=ltI_true.1 h2;omega)]
    · have h0:=neI_false.1 h
      have h1:=ltI_false.1 h1
      have h2:=ltI_false.1 h2
      have st:=fits_sm (chk_fits h0)
      rw [faultD,if_pos ⟨h0,by omega,by omega⟩]
      refine ⟨st.eB (by omega),⟨by omega,by omega⟩,⟨(absD_sm m0 st).mono (by omega),(mkS_sm6 (n:=1) (by omega)).mono (by omega)⟩,br_intro (fun h3=>?_) fun h3=>?_⟩
      · rw [if_pos (ltI_true.1 h3)]
      · rw [if_neg (ltI_false.1 h3)]⟩
theorem rv_int(n:Int):(mkS n 0).rv=(n:Rat):=by rw [rv_mkS,p2_zero,Rat.mul_one]
theorem fault0{t:Dx}{p:Int}(ht:0≤t.m)(h:faultD t p=0):t.fitsB=true∧8≤p∧p≤4096∧small1 t:=by
  unfold faultD at h
  split at h
  · rename_i k
    split at h
    · omega
    · rename_i k2
      refine ⟨chk_fits k.1,k.2.1,k.2.2,?_⟩
      have k3:=cmpD_gt0 (a:=absD t) (b:=mkS 1 0)
      have k4:(absD t).rv≤1:=by
        have e:(mkS 1 0).rv=1:=rv_int 1
        rw [e] at k3
        grind
      rw [rv_abs ht] at k4
      obtain ⟨a1,a2⟩:=rv_amt ht
      rcases (show 0≤t.rv∨t.rv≤0 by grind) with c | c
      · have:=a1 c;exact ⟨by grind,by grind⟩
      · have:=a2 c;exact ⟨by grind,by grind⟩
  · omega
theorem small_one{t:Dx}(ht:0≤t.m)(h:small1 t):small1 (oneD t):=by unfold small1;rw [rv_one ht];exact h
theorem rBoth1_vc(t:Dx)(p:Int)(Q:Tv→Prop):execF ⟨tys4,sSin2⟩ (fun _=>none) 0 Tryz.f26 [.agg (dyL false t),.one (.ref [.int .i64 p])] Q=((Dx.Sm 131072 t∧small1 t∧(0:Int)≤p∧p≤60000)∧Q (Tv.sv (Sv.agg (ivL false (sineV t p))))):=by kernel_rfl
def preS(t:Dx)(p:Int):Prop:=t.Sm 131072∧small1 t∧0≤p∧p≤60000
def wBo(fS:Dx→Int→Vx)(pr:Dx→Int→Prop):Spec:=fun l=>match l with
  | [.agg [.bool n,.words false x,.int .i64 e],.one (.ref [.int .i64 p])]=>(some (pr ⟨n,x,e⟩ p),vF (fS ⟨n,x,e⟩ p))
  | _=>noSpec
theorem rBoth1_ok:SpecOk Tryz.prog 26 (wBo sineV preS) :=
  specOk_at (envOk tys4_ok sSin2_ok) mixed Tryz.func26 rfl (by decide) 2 (by decide) fun l p t e hp=>by
    unfold wBo at e
    split at e
    · rename_i n x e0 q
      cases e
      exact ⟨Nat.le_refl 2,fun _=>none,0,(rBoth1_vc ⟨n,x,e0⟩ q _).mpr ⟨hp,rfl⟩⟩
    · cases e;exact hp.elim
theorem rRise_vc(v:Vx)(fS:Dx→Int→Vx)(pr:Dx→Int→Prop)(p:Int)(Q:Tv→Prop):execF ⟨tys4,[(26,wBo fS pr)]⟩ (fun _=>none) 0 Tryz.f25 [.agg (ivL false v),.one (.fn 26 [.ref [.int .i64 p]])] Q=(pr v.lo p∧pr v.hi p∧true=true∧Q (Tv.sv (Sv.agg (ivL false (Vx.mk (fS v.lo p).lo (fS v.hi p).hi))))):=by kernel_rfl
def sinesV(v:Vx)(p:Int):Vx:=⟨(sineV v.lo p).lo,(sineV v.hi p).hi⟩
def rRise:Spec:=fun l=>match l with
  | [.agg [.bool n,.words false x,.int .i64 e,.bool n',.words false x',.int .i64 e'],.one (.fn f [.ref [.int .i64 p]])] =>
    (some (f=26∧preS ⟨n,x,e⟩ p∧preS ⟨n',x',e'⟩ p),vF (sinesV ⟨⟨n,x,e⟩,⟨n',x',e'⟩⟩ p))
  | _=>noSpec
theorem rRise_ok:SpecOk Tryz.prog 25 rRise :=
  specOk_at (envOk (S:=[(26,wBo sineV preS)]) tys4_ok ⟨rBoth1_ok,trivial⟩) mixed Tryz.func25 rfl (by decide) 2 (by decide) fun l p t e hp=>by
    unfold rRise at e
    split at e
    · rename_i n x e0 n' x' e0' f q
      cases e
      obtain ⟨rfl,h1,h2⟩:=hp
      exact ⟨Nat.le_refl 2,fun _=>none,0,(rRise_vc ⟨⟨n,x,e0⟩,⟨n',x',e0'⟩⟩ sineV preS q _).mpr ⟨h1,h2,rfl,rfl⟩⟩
    · cases e;exact hp.elim
def cosinesV(v:Vx)(p:Int):Vx :=
  let out:=spanL (cosineV v.lo p).lo [(cosineV v.lo p).hi,(cosineV v.hi p).lo,(cosineV v.hi p).hi]
  if zeroV v=true then ⟨out.lo,mkS 1 0⟩ else out
def rCss:Spec:=specK [.v,.i .i64] fun (v:Vx) (p:Int)=>(some (preS v.lo p∧preS v.hi p),vF (cosinesV v p))
theorem rCss_vc(v:Vx)(p:Int)(Q:Tv→Prop):execF ⟨tys4,sSin2⟩ (fun _=>none) 0 Tryz.f27 [.agg (ivL false v),.one (.int .i64 p)] Q=((Dx.Sm 131072 v.lo∧small1 v.lo∧(0:Int)≤p∧p≤60000)∧(Dx.Sm 131072 v.hi∧small1 v.hi∧(0:Int)≤p∧p≤60000)∧true=true∧(Dx.Sm 68719476736 (cosineV v.lo p).lo∧Dx.Sm 68719476736 (cosineV v.lo p).hi∧Dx.Sm 68719476736 (cosineV v.hi p).lo∧Dx.Sm 68719476736 (cosineV v.hi p).hi)∧br (zeroV v) (inR 1∧Q (Tv.sv (Sv.agg (At.bool (spanL (cosineV v.lo p).lo [(cosineV v.lo p).hi,(cosineV v.hi p).lo,(cosineV v.hi p).hi]).lo.neg :: At.words false (spanL (cosineV v.lo p).lo [(cosineV v.lo p).hi,(cosineV v.hi p).lo,(cosineV v.hi p).hi]).lo.xs :: At.int .i64 (spanL (cosineV v.lo p).lo [(cosineV v.lo p).hi,(cosineV v.hi p).lo,(cosineV v.hi p).hi]).lo.e :: dyL true (mkS 1 0))))) (Q (Tv.sv (Sv.agg (ivL false (spanL (cosineV v.lo p).lo [(cosineV v.lo p).hi,(cosineV v.hi p).lo,(cosineV v.hi p).hi])))))):=by kernel_rfl
theorem cosineV_sm{t:Dx}{p:Int}(ht:0≤t.m)(h:preS t p):(cosineV t p).Sm 262144:=by
  obtain ⟨st,h1,p0,p1⟩:=h
  unfold cosineV
  split
  · exact (pointV_sm mkS_p (mkS_sm6 (n:=1) (by omega))).mono (by omega)
  · exact altV_sm ht h1 (by omega) (by omega) (by omega) (by omega)
theorem rCss_ok:SpecOk Tryz.prog 27 rCss :=
  specKW_ok (envOk tys4_ok sSin2_ok) mixed Tryz.func27 rfl (by decide) (by decide) fun (v:Vx) hv (p:Int) _ hp=>⟨fun _=>none,0,by
    obtain ⟨h1,h2⟩:preS v.lo p∧preS v.hi p:=hp
    have hv:=Vx.Wf.p hv
    have z1:=cosineV_sm hv.1 h1
    have z2:=cosineV_sm hv.2 h2
    show execF _ _ _ _ _ (fun t=>t=vF (cosinesV v p)∨fgT t=vF (cosinesV v p))
    refine (rCss_vc v p _).mpr ⟨h1,h2,rfl,⟨z1.1.mono (by omega),z1.2.mono (by omega),z2.1.mono (by omega),z2.2.mono (by omega)⟩,br_intro (fun h=>⟨⟨by omega,by omega⟩,.inr ?_⟩) fun h=>.inl ?_⟩
    · rw [cosinesV,if_pos h];rfl
    · rw [cosinesV,if_neg (by rw [h];simp)];rfl⟩
def sSin3:List (FuncId×Spec):=[(22,rOne),(21,rSine),(23,rCosine),(20,rCutV),(19,rFault),(25,rRise),(27,rCss),(24,vCk)]
theorem sSin3_ok:SpecsOk Tryz.prog sSin3:=⟨rOne_ok,rSine_ok,rCosine_ok,rCutV_ok,rFault_ok,rRise_ok,rCss_ok,vCk_ok,trivial⟩
def sinR(t:Dx)(p:Int):Vx×Int:=if faultD t p=0 then cutR (sineV (oneD t) p) p else (zeroIv,faultD t p)
def cosR(t:Dx)(p:Int):Vx×Int:=if faultD t p=0 then cutR (cosineV (oneD t) p) p else (zeroIv,faultD t p)
theorem fault_pre{t:Dx}{p:Int}(ht:0≤t.m)(h:faultD t p=0):preS (oneD t) p:=by
  obtain ⟨h1,h2,h3,h4⟩:=fault0 ht h
  exact ⟨one_sm ht (fits_sm h1),small_one ht h4,by omega,by omega⟩
theorem sineV_sm{t:Dx}{p:Int}(ht:0≤t.m)(h:preS t p):(sineV t p).Sm 67108864:=by
  obtain ⟨st,h1,p0,p1⟩:=h
  unfold sineV
  split
  · have z:(⟨false,[],0⟩:Dx).Sm 67108864:=⟨by decide,by decide,by decide⟩
    exact ⟨z,z⟩
  · have z2:=trimV_sm (pointV_p t) (pointV_sm ht st) (p:=p+64) (by omega)
    have z3:=(altV_sm ht h1 (f:=2) (w:=p+64) (by omega) (by omega) (by omega) (by omega)).mono (show 262144≤6*(131072+131072)+1 by omega)
    exact (timesV_sm (trimV_p _ _) ⟨mkD_p,mkD_p⟩ z2 z3 (p:=p+64) (by omega)).mono (by omega)
def rSin:Spec:=specK [.d,.i .i64] fun (t:Dx) (p:Int)=>(none,reT (sinR t p))
theorem rSin_vc(t:Dx)(p:Int)(Q:Tv→Prop):execF ⟨tys4,sSin3⟩ (fun _=>none) 0 Tryz.f6 [.agg (dyL false t),.one (.int .i64 p)] Q=(br (neI (faultD t p) 0) (Q (Tv.tup [Sv.agg [At.bool false,At.words true [],At.int .i64 0,At.bool false,At.words true [],At.int .i64 0],Sv.one (At.int .i64 (faultD t p))])) (((-4611686018427387904:Int)≤t.e∧t.e≤4611686018427387904)∧(Dx.Sm 131072 (oneD t)∧small1 (oneD t)∧(0:Int)≤p∧p≤60000)∧(Vx.Sm 34359738368 (sineV (oneD t) p)∧(0:Int)≤p∧p≤1073741824)∧Q (Tv.tup [Sv.agg (ivL false (cutR (sineV (oneD t) p) p).fst),Sv.one (At.int .i64 (cutR (sineV (oneD t) p) p).snd)]))):=by kernel_rfl
theorem rSin_ok:SpecOk Tryz.prog 6 rSin :=
  specKW_ok (envOk tys4_ok sSin3_ok) mixed Tryz.func6 rfl (by decide) (by decide) fun (t:Dx) ht (p:Int) _ _=>⟨fun _=>none,0,by
    have m0:=Dx.Wf.m0 ht
    show execF _ _ _ _ _ (fun t'=>t'=reT (sinR t p)∨fgT t'=reT (sinR t p))
    refine (rSin_vc t p _).mpr (br_intro (fun h=>.inr ?_) fun h=>?_)
    · rw [sinR,if_neg (neI_true.1 h)];rfl
    · have h:=neI_false.1 h
      have pr:=fault_pre m0 h
      have st:=fits_sm (fault0 m0 h).1
      have pp:=(fault0 m0 h).2
      exact ⟨st.eB (by omega),pr,⟨(sineV_sm oneD_p pr).mono (by omega),by omega,by omega⟩,.inl (by rw [sinR,if_pos h];rfl)⟩⟩
def rCos:Spec:=specK [.d,.i .i64] fun (t:Dx) (p:Int)=>(none,reT (cosR t p))
theorem rCos_vc(t:Dx)(p:Int)(Q:Tv→Prop):execF ⟨tys4,sSin3⟩ (fun _=>none) 0 Tryz.f7 [.agg (dyL false t),.one (.int .i64 p)] Q=(br (neI (faultD t p) 0) (Q (Tv.tup [Sv.agg [At.bool false,At.words true [],At.int .i64 0,At.bool false,At.words true [],At.int .i64 0],Sv.one (At.int .i64 (faultD t p))])) (((-4611686018427387904:Int)≤t.e∧t.e≤4611686018427387904)∧(Dx.Sm 131072 (oneD t)∧small1 (oneD t)∧(0:Int)≤p∧p≤60000)∧(Vx.Sm 34359738368 (cosineV (oneD t) p)∧(0:Int)≤p∧p≤1073741824)∧Q (Tv.tup [Sv.agg (ivL false (cutR (cosineV (oneD t) p) p).fst),Sv.one (At.int .i64 (cutR (cosineV (oneD t) p) p).snd)]))):=by kernel_rfl
theorem rCos_ok:SpecOk Tryz.prog 7 rCos :=
  specKW_ok (envOk tys4_ok sSin3_ok) mixed Tryz.func7 rfl (by decide) (by decide) fun (t:Dx) ht (p:Int) _ _=>⟨fun _=>none,0,by
    have m0:=Dx.Wf.m0 ht
    show execF _ _ _ _ _ (fun t'=>t'=reT (cosR t p)∨fgT t'=reT (cosR t p))
    refine (rCos_vc t p _).mpr (br_intro (fun h=>.inr ?_) fun h=>?_)
    · rw [cosR,if_neg (neI_true.1 h)];rfl
    · have h:=neI_false.1 h
      have pr:=fault_pre m0 h
      have st:=fits_sm (fault0 m0 h).1
      have pp:=(fault0 m0 h).2
      exact ⟨st.eB (by omega),pr,⟨(cosineV_sm oneD_p pr).mono (by omega),by omega,by omega⟩,.inl (by rw [cosR,if_pos h];rfl)⟩⟩
def onesV(v:Vx):Vx:=⟨oneD v.lo,oneD v.hi⟩
def both2(s c:Vx×Int):(Vx×Vx)×Int:=if s.2=0∧c.2=0 then ((s.1,c.1),0) else ((zeroIv,zeroIv),3)
def bothR(v:Vx)(p:Int):(Vx×Vx)×Int :=
  if checkR v=0 then if faultD v.lo p=0 then if faultD v.hi p=0 then both2 (cutR (sinesV (onesV v) p) p) (cutR (cosinesV (onesV v) p) p) else ((zeroIv,zeroIv),faultD v.hi p) else ((zeroIv,zeroIv),faultD v.lo p) else ((zeroIv,zeroIv),2)
theorem cosinesV_sm{v:Vx}{p:Int}(hv:v.P)(h1:preS v.lo p)(h2:preS v.hi p):(cosinesV v p).Sm 262144:=by
  have z1:=cosineV_sm hv.1 h1
  have z2:=cosineV_sm hv.2 h2
  have z:=span4_sm z1.1 z1.2 z2.1 z2.2
  unfold cosinesV
  show Vx.Sm 262144 (if _ then _ else _)
  split
  · exact ⟨z.1,(mkS_sm6 (n:=1) (by omega)).mono (by omega)⟩
  · exact z
def srK:LKeep:=⟨[2,6,7,8,9,10,11,12],[(1,6),(10,2),(14,2),(18,2),(19,2)],25⟩
def srSt(q:Int)(f:Int)(sq:Fx)(T S0 S1:Nat→Fx)(a:Nat×Bool):List (Nat×Tv)×List (Nat×Nat×At) :=
  ([(2,iT q),(6,.sv (.one (.ptr 1 0))),(7,.sv (.one (.ptr 10 0))),(8,.sv (.one (.ptr 14 0))),(9,.sv (.one (.ptr 18 0))),(10,.sv (.one (.ptr 19 0))),(11,.sv (.one (.int .u64 (f+2*(a.1:Nat))))),(12,bT (decide (a.1 % 2=0)))],
   [(1,0,.bool false),(1,1,.words true []),(1,2,.int .i64 0),(1,3,.bool false),(1,4,.words true []),(1,5,.int .i64 0)] ++ (clX 10 0 false (fw sq) ++ (clX 14 0 false (fw (T a.1)) ++ (clX 18 0 false (fw (S0 (a.1+1))) ++ clX 19 0 a.2 (fw (S1 (a.1+1)))))))
def srInv(q f:Int)(sq:Fx)(T S0 S1:Nat→Fx)(K:Nat):Nat→Option LInv:=invAt 6 (.rel srK (Nat×Bool) (srSt q f sq T S0 S1) (fun a=>a.1≤K) (fun a=>K-a.1))
def sSr:List (FuncId×Spec):=[(44,gPoint),(43,gTimes),(71,elFix),(72,niOne),(74,niMul),(73,niSmall),(75,niAdd),(77,niSub),(76,niIval)]
theorem sSr_ok:SpecsOk Tryz.prog sSr:=⟨gPoint_ok,gTimes_ok,elFix_ok,niOne_ok,niMul_ok,niSmall_ok,niAdd_ok,niSub_ok,niIval_ok,trivial⟩
theorem hSer_vc(t:Dx)(f q:Int)(T S0 S1:Nat→Fx)(K:Nat)(Q:Tv→Prop):execF ⟨tys4,sSr⟩ (srInv q f (fix11 (timesV (pointV t) (pointV t) q) q) T S0 S1 K) 0 Tryz.f45 [.agg (dyL false t),.one (.int .u64 f),.one (.int .i64 q)] Q=(eB 4611686018427387904 t∧eB 4611686018427387904 t∧(Vx.Sm 268435456 (pointV t)∧Vx.Sm 268435456 (pointV t)∧(0:Int)≤q∧q≤1099511627776)∧(Vx.Sm 1073741824 (timesV (pointV t) (pointV t) q)∧List.length (timesV (pointV t) (pointV t) q).lo.xs≤1073741824∧List.length (timesV (pointV t) (pointV t) q).hi.xs≤1073741824∧(0:Int)≤q∧q≤16777216∧(0:Int)≤(fix11 (timesV (pointV t) (pointV t) q) q).e∧(fix11 (timesV (pointV t) (pointV t) q) q).e≤1099511627776)∧true=true∧((0:Int)≤q∧q≤16777216)∧true=true∧(∃ (a:Nat×Bool),a.fst≤K∧Sg.mk [(2,iT q),(6,Tv.sv (Sv.one (At.ptr ((0:Nat)+1) 0))),(7,Tv.sv (Sv.one (At.ptr ((2:Nat)+8) 0))),(8,Tv.sv (Sv.one (At.ptr ((12:Nat)+2) 0))),(9,Tv.sv (Sv.one (At.ptr ((16:Nat)+2) 0))),(10,Tv.sv (Sv.one (At.ptr ((16:Nat)+3) 0))),(11,Tv.sv (Sv.one (At.int .u64 f))),(12,bT true)] [(1,0,At.bool false),(1,1,At.words true []),(1,2,At.int .i64 0),(1,3,At.bool false),(1,4,At.words true []),(1,5,At.int .i64 0),(10,0,At.words false (fw (fix11 (timesV (pointV t) (pointV t) q) q)).xs),(10,1,At.int .u64 (fw (fix11 (timesV (pointV t) (pointV t) q) q)).e),(14,0,At.words false (fw (Fx.mk ((2:Int)^Int.toNat q) 0)).xs),(14,1,At.int .u64 (fw (Fx.mk ((2:Int)^Int.toNat q) 0)).e),(18,0,At.words false (fw (Fx.mk ((2:Int)^Int.toNat q) 0)).xs),(18,1,At.int .u64 (fw (Fx.mk ((2:Int)^Int.toNat q) 0)).e),(19,0,At.words true []),(19,1,At.int .u64 0)] 25=LKeep.at srK (srSt q f (fix11 (timesV (pointV t) (pointV t) q) q) T S0 S1 a))∧∀ (a:Nat×Bool),a.fst≤K→br (ltI 0 (↑(List.length (fw (T a.fst)).xs):Int)) ((Fw.Ok (fw (T a.fst))∧Fw.Ok (fw (fix11 (timesV (pointV t) (pointV t) q) q))∧(0:Int)≤q∧q≤16777216∧(mulF (Fw.f (fw (T a.fst))) (Fw.f (fw (fix11 (timesV (pointV t) (pointV t) q) q))) q).e≤1099511627776)∧((0:Int)≤(fw (mulF (Fw.f (fw (T a.fst))) (Fw.f (fw (fix11 (timesV (pointV t) (pointV t) q) q))) q)).e∧(fw (mulF (Fw.f (fw (T a.fst))) (Fw.f (fw (fix11 (timesV (pointV t) (pointV t) q) q))) q)).e≤1099511627776∧(0:Int)<f+2*(↑a.fst:Int)∧f+2*(↑a.fst:Int)≤4294967296)∧((0:Int)≤(fw (shortF (Fw.f (fw (mulF (Fw.f (fw (T a.fst))) (Fw.f (fw (fix11 (timesV (pointV t) (pointV t) q) q))) q))) (f+2*(↑a.fst:Int)))).e∧(fw (shortF (Fw.f (fw (mulF (Fw.f (fw (T a.fst))) (Fw.f (fw (fix11 (timesV (pointV t) (pointV t) q) q))) q))) (f+2*(↑a.fst:Int)))).e≤1099511627776∧(0:Int)<IntKind.wrap IntKind.u64 (f+2*(↑a.fst:Int)+1)∧IntKind.wrap IntKind.u64 (f+2*(↑a.fst:Int)+1)≤4294967296)∧br (decide (a.fst % 2=(0:Nat))) ((Fw.Ok (fw (S1 (a.fst+1)))∧Fw.Ok (fw (shortF (Fw.f (fw (shortF (Fw.f (fw (mulF (Fw.f (fw (T a.fst))) (Fw.f (fw (fix11 (timesV (pointV t) (pointV t) q) q))) q))) (f+2*(↑a.fst:Int))))) (IntKind.wrap IntKind.u64 (f+2*(↑a.fst:Int)+1)))))∧true=true∧∃ (a':Nat×Bool),a'.fst≤K∧Sg.mk [(2,iT q),(6,Tv.sv (Sv.one (At.ptr 1 0))),(7,Tv.sv (Sv.one (At.ptr 10 0))),(8,Tv.sv (Sv.one (At.ptr 14 0))),(9,Tv.sv (Sv.one (At.ptr 18 0))),(10,Tv.sv (Sv.one (At.ptr 19 0))),(11,Tv.sv (Sv.one (At.int .u64 (IntKind.wrap IntKind.u64 (f+2*(↑a.fst:Int)+2))))),(12,bT !decide (a.fst % 2=(0:Nat)))] [(1,0,At.bool false),(1,1,At.words true []),(1,2,At.int .i64 0),(1,3,At.bool false),(1,4,At.words true []),(1,5,At.int .i64 0),(10,0,At.words false (fw (fix11 (timesV (pointV t) (pointV t) q) q)).xs),(10,1,At.int .u64 (fw (fix11 (timesV (pointV t) (pointV t) q) q)).e),(14,0,At.words false (fw (shortF (Fw.f (fw (shortF (Fw.f (fw (mulF (Fw.f (fw (T a.fst))) (Fw.f (fw (fix11 (timesV (pointV t) (pointV t) q) q))) q))) (f+2*(↑a.fst:Int))))) (IntKind.wrap IntKind.u64 (f+2*(↑a.fst:Int)+1)))).xs),(14,1,At.int .u64 (fw (shortF (Fw.f (fw (shortF (Fw.f (fw (mulF (Fw.f (fw (T a.fst))) (Fw.f (fw (fix11 (timesV (pointV t) (pointV t) q) q))) q))) (f+2*(↑a.fst:Int))))) (IntKind.wrap IntKind.u64 (f+2*(↑a.fst:Int)+1)))).e),(18,0,At.words false (fw (S0 (a.fst+1))).xs),(18,1,At.int .u64 (fw (S0 (a.fst+1))).e),(19,0,At.words false (fw (addF (Fw.f (fw (S1 (a.fst+1)))) (Fw.f (fw (shortF (Fw.f (fw (shortF (Fw.f (fw (mulF (Fw.f (fw (T a.fst))) (Fw.f (fw (fix11 (timesV (pointV t) (pointV t) q) q))) q))) (f+2*(↑a.fst:Int))))) (IntKind.wrap IntKind.u64 (f+2*(↑a.fst:Int)+1))))))).xs),(19,1,At.int .u64 (fw (addF (Fw.f (fw (S1 (a.fst+1)))) (Fw.f (fw (shortF (Fw.f (fw (shortF (Fw.f (fw (mulF (Fw.f (fw (T a.fst))) (Fw.f (fw (fix11 (timesV (pointV t) (pointV t) q) q))) q))) (f+2*(↑a.fst:Int))))) (IntKind.wrap IntKind.u64 (f+2*(↑a.fst:Int)+1))))))).e)] 25=LKeep.at srK (srSt q f (fix11 (timesV (pointV t) (pointV t) q) q) T S0 S1 a')∧K-a'.fst<K-a.fst) ((Fw.Ok (fw (S0 (a.fst+1)))∧Fw.Ok (fw (shortF (Fw.f (fw (shortF (Fw.f (fw (mulF (Fw.f (fw (T a.fst))) (Fw.f (fw (fix11 (timesV (pointV t) (pointV t) q) q))) q))) (f+2*(↑a.fst:Int))))) (IntKind.wrap IntKind.u64 (f+2*(↑a.fst:Int)+1)))))∧true=true∧∃ (a':Nat×Bool),a'.fst≤K∧Sg.mk [(2,iT q),(6,Tv.sv (Sv.one (At.ptr 1 0))),(7,Tv.sv (Sv.one (At.ptr 10 0))),(8,Tv.sv (Sv.one (At.ptr 14 0))),(9,Tv.sv (Sv.one (At.ptr 18 0))),(10,Tv.sv (Sv.one (At.ptr 19 0))),(11,Tv.sv (Sv.one (At.int .u64 (IntKind.wrap IntKind.u64 (f+2*(↑a.fst:Int)+2))))),(12,bT !decide (a.fst % 2=(0:Nat)))] [(1,0,At.bool false),(1,1,At.words true []),(1,2,At.int .i64 0),(1,3,At.bool false),(1,4,At.words true []),(1,5,At.int .i64 0),(10,0,At.words false (fw (fix11 (timesV (pointV t) (pointV t) q) q)).xs),(10,1,At.int .u64 (fw (fix11 (timesV (pointV t) (pointV t) q) q)).e),(14,0,At.words false (fw (shortF (Fw.f (fw (shortF (Fw.f (fw (mulF (Fw.f (fw (T a.fst))) (Fw.f (fw (fix11 (timesV (pointV t) (pointV t) q) q))) q))) (f+2*(↑a.fst:Int))))) (IntKind.wrap IntKind.u64 (f+2*(↑a.fst:Int)+1)))).xs),(14,1,At.int .u64 (fw (shortF (Fw.f (fw (shortF (Fw.f (fw (mulF (Fw.f (fw (T a.fst))) (Fw.f (fw (fix11 (timesV (pointV t) (pointV t) q) q))) q))) (f+2*(↑a.fst:Int))))) (IntKind.wrap IntKind.u64 (f+2*(↑a.fst:Int)+1)))).e),(18,0,At.words false (fw (addF (Fw.f (fw (S0 (a.fst+1)))) (Fw.f (fw (shortF (Fw.f (fw (shortF (Fw.f (fw (mulF (Fw.f (fw (T a.fst))) (Fw.f (fw (fix11 (timesV (pointV t) (pointV t) q) q))) q))) (f+2*(↑a.fst:Int))))) (IntKind.wrap IntKind.u64 (f+2*(↑a.fst:Int)+1))))))).xs),(18,1,At.int .u64 (fw (addF (Fw.f (fw (S0 (a.fst+1)))) (Fw.f (fw (shortF (Fw.f (fw (shortF (Fw.f (fw (mulF (Fw.f (fw (T a.fst))) (Fw.f (fw (fix11 (timesV (pointV t) (pointV t) q) q))) q))) (f+2*(↑a.fst:Int))))) (IntKind.wrap IntKind.u64 (f+2*(↑a.fst:Int)+1))))))).e),(19,0,At.words a.snd (fw (S1 (a.fst+1))).xs),(19,1,At.int .u64 (fw (S1 (a.fst+1))).e)] 25=LKeep.at srK (srSt q f (fix11 (timesV (pointV t) (pointV t) q) q) T S0 S1 a')∧K-a'.fst<K-a.fst)) ((Fw.Ok (Fw.mk (fw (S0 (a.fst+1))).xs (IntKind.wrap IntKind.u64 ((fw (S0 (a.fst+1))).e+4)))∧Fw.Ok (Fw.mk (fw (S1 (a.fst+1))).xs (IntKind.wrap IntKind.u64 ((fw (S1 (a.fst+1))).e+4)))∧(Fw.f (Fw.mk (fw (S1 (a.fst+1))).xs (IntKind.wrap IntKind.u64 ((fw (S1 (a.fst+1))).e+4)))).a+(Fw.f (Fw.mk (fw (S1 (a.fst+1))).xs (IntKind.wrap IntKind.u64 ((fw (S1 (a.fst+1))).e+4)))).e≤(Fw.f (Fw.mk (fw (S0 (a.fst+1))).xs (IntKind.wrap IntKind.u64 ((fw (S0 (a.fst+1))).e+4)))).a)∧(Fw.Ok (fw (subF (Fw.f (Fw.mk (fw (S0 (a.fst+1))).xs (IntKind.wrap IntKind.u64 ((fw (S0 (a.fst+1))).e+4)))) (Fw.f (Fw.mk (fw (S1 (a.fst+1))).xs (IntKind.wrap IntKind.u64 ((fw (S1 (a.fst+1))).e+4))))))∧(0:Int)≤q∧q≤16777216)∧Q (Tv.sv (Sv.agg (ivL true (ivF (Fw.f (fw (subF (Fw.f (Fw.mk (fw (S0 (a.fst+1))).xs (IntKind.wrap IntKind.u64 ((fw (S0 (a.fst+1))).e+4)))) (Fw.f (Fw.mk (fw (S1 (a.fst+1))).xs (IntKind.wrap IntKind.u64 ((fw (S1 (a.fst+1))).e+4))))))) q)))))):=by kernel_rfl
theorem cut_ws{d:Dx}{p:Int}{up:Bool}(hd:0≤d.m):(cutD d p up).xs=ws (cutD d p up).m:=by
  have m0:0≤(oneD d).m:=oneD_p
  unfold cutD cutX
  split
  · exact mkD_ws hd
  · refine mkD_ws ?_
    have:=Int.ediv_nonneg m0 (show (0:Int)≤2^((blen (oneD d).m:Int)-p).toNat by have:=two_pow_pos ((blen (oneD d).m:Int)-p).toNat;omega)
    split<;>omega
theorem cut_len{d:Dx}{p:Int}{up:Bool}{N:Nat}(hd:0≤d.m)(h:(cutD d p up).Sm (64*N)):(cutD d p up).xs.length≤N:=by
  rw [cut_ws hd];exact ws_blen cutD_p h.1
def hSer:Spec:=specK [.d,.i .u64,.i .i64] fun (t:Dx) (f:Int) (q:Int)=>(some (t.Sm 131072∧small1 t∧1≤f∧f≤2∧32≤q∧q≤65536),vT (altR f.toNat t q))
theorem hSer_ok:SpecOk Tryz.prog 45 hSer :=
  specK_ok (envOk tys4_ok sSr_ok) mixed Tryz.func45 rfl (by decide) (by decide) fun (t:Dx) ht (f:Int) _ (q:Int) _ hp=>by
    obtain ⟨st,⟨t1,t2⟩,f1,f2,w0,w1⟩:t.Sm 131072∧small1 t∧1≤f∧f≤2∧32≤q∧q≤65536:=hp
    obtain ⟨n,rfl⟩:∃ n:Nat,f=n:=⟨f.toNat,by omega⟩
    have m0:=Dx.Wf.m0 ht
    have A:=sqR_alt m0 t1 t2 (f:=n) (by omega) (by omega) w0 w1
    have so:=A.sqOk
    have z1:=pointV_sm m0 st
    have z2:=timesV_sm (pointV_p t) (pointV_p t) z1 z1 (p:=q) (by omega)
    obtain ⟨k1,k2,k3,k4⟩:=altK_spec A
    have d:=altD_bd A (K:=altK n (sqR t q) q+1) (by omega) (by omega) (c:=4) (by omega) (by omega)
    have e0:0≤(sqR t q).e∧(sqR t q).e≤16:=⟨A.hsq.e0,A.he⟩
    have hsq:fix11 (timesV (pointV t) (pointV t) q) q=sqR t q:=rfl
    have goal:vT (altR n t q)=vT (ivF (subF (widerF (altM n (sqR t q) q 0 (altK n (sqR t q) q+1)) 4) (widerF (altM n (sqR t q) q 1 (altK n (sqR t q) q+1)) 4)) q):=rfl
    refine ⟨srInv q n (sqR t q) (altT n (sqR t q) q) (altM n (sqR t q) q 0) (altM n (sqR t q) q 1) (altK n (sqR t q) q),0,?_⟩
    show execF _ _ _ _ _ (fun t'=>t'=vT (altR n t q))
    refine (hSer_vc t n q _ _ _ _ _).mpr ?_
    rw [hsq,goal]
    have dd:subF (widerF (altM n (sqR t q) q 0 (altK n (sqR t q) q+1)) 4) (widerF (altM n (sqR t q) q 1 (altK n (sqR t q) q+1)) 4)=altD n (sqR t q) q (altK n (sqR t q) q+1) 4:=rfl
    rw [←dd] at d
    clear goal dd
    generalize sqR t q=sq at *
    generalize hK:altK n sq q=K at *
    have pt:eB 4611686018427387904 t:=st.eB (by omega)
    have p0:=two_pow_pos q.toNat
    have l1:(timesV (pointV t) (pointV t) q).lo.xs.length≤1073741824:=cut_len (N:=1073741824) (prodV_p _ _).1 (Dx.Sm.mono z2.1 (by omega))
    have l2:(timesV (pointV t) (pointV t) q).hi.xs.length≤1073741824:=cut_len (N:=1073741824) (prodV_p _ _).2 (Dx.Sm.mono z2.2 (by omega))
    refine ⟨pt,pt,⟨z1.mono (by omega),z1.mono (by omega),by omega,by omega⟩,⟨z2.mono (by omega),l1,l2,by omega,by omega,e0.1,by omega⟩,rfl,⟨by omega,by omega⟩,rfl,⟨(0,true),Nat.zero_le _,?_⟩,fun a ha=>?_⟩
    · have q1:fw (altM n sq q 1 (0+1))=⟨[],0⟩:=by show (⟨ws 0,0⟩:Fw)=_;rw [ws_zero]
      have q0:fw (altM n sq q 0 (0+1))=fw ⟨2^q.toNat,0⟩:=by
        show fw (addF ⟨0,0⟩ ⟨2^q.toNat,0⟩)=_
        show (⟨ws (0+2^q.toNat),0+0⟩:Fw)=⟨ws (2^q.toNat),0⟩
        rw [Int.zero_add,Int.zero_add]
      unfold LKeep.at srSt
      rw [q0,q1,show ((0:Nat):Int)=0 from rfl,Int.mul_zero,Int.add_zero]
      rfl
    · obtain ⟨k,b⟩:=a
      have ha:k≤K:=ha
      obtain ⟨tok,te⟩:=altT_ok A k
      have o0:=altM_ok A 0 (k:=k+1) (by omega)
      have o1:=altM_ok A 1 (k:=k+1) (by omega)
      have hin:=altT_in A k
      have hx:(ltI 0 (((fw (altT n sq q k)).xs.length:Nat):Int))=decide ((altT n sq q k).a≠0):=len_pos tok.1
      have ft:(fw (altT n sq q k)).f=altT n sq q k:=fw_f tok.1
      have fs:(fw sq).f=sq:=fw_f so.1
      have m:=mulF_e0 (w:=q) tok so
      have me:(mulF (altT n sq q k) sq q).e≤40:=by
        have P:=p2_32 w0
        have a1:=hin.le_one (by omega) (tmf_le1 A.f1 A.x0 A.x1 k)
        have a2:=A.hsq.le_one (by omega) A.x1
        have e1:=altT_e A k
        have:=mulF_e (w:=q) hin.e0 A.hsq.e0 a1 a2 (by have:=Int.mul_le_mul e1 e0.2 e0.1 (by omega);omega)
        omega
      have fm:(fw (mulF (altT n sq q k) sq q)).f=mulF (altT n sq q k) sq q:=fw_f m.1
      have s1:=shortF_e0 (d:=(n:Int)+2*(k:Int)) m.1 m.2 (by omega)
      have fs1:(fw (shortF (mulF (altT n sq q k) sq q) ((n:Int)+2*(k:Int)))).f=shortF (mulF (altT n sq q k) sq q) ((n:Int)+2*(k:Int)):=fw_f s1.1
      have w1':IntKind.u64.wrap ((n:Int)+2*(k:Int)+1)=(n:Int)+2*(k:Int)+1:=wrap_w ⟨by omega,by omega⟩
      have w2':IntKind.u64.wrap ((n:Int)+2*(k:Int)+2)=(n:Int)+2*((k+1:Nat):Int):=by rw [wrap_w ⟨by omega,by omega⟩];omega
      have step:shortF (shortF (mulF (altT n sq q k) sq q) ((n:Int)+2*(k:Int))) ((n:Int)+2*(k:Int)+1)=altT n sq q (k+1):=by
        show _=stepA n sq q (altT n sq q k) ((k+1:Nat):Int)
        rw [stepA_eq,show ((n+2*k:Nat):Int)=(n:Int)+2*(k:Int) by omega,show ((n+2*k+1:Nat):Int)=(n:Int)+2*(k:Int)+1 by omega]
      obtain ⟨tok1,te1⟩:=altT_ok A (k+1)
      have ft1:(fw (altT n sq q (k+1))).f=altT n sq q (k+1):=fw_f tok1.1
      have f0:(fw (altM n sq q 0 (k+1))).f=altM n sq q 0 (k+1):=fw_f o0.1
      have f1':(fw (altM n sq q 1 (k+1))).f=altM n sq q 1 (k+1):=fw_f o1.1
      have fe:∀ z:Fx,(fw z).e=z.e:=fun _=>rfl
      dsimp only
      rw [hx,ft,fs,fm,fs1,w1',w2',step,ft1,f0,f1',fe,fe]
      refine br_intro (fun h=>?_) fun h=>?_
      · have h:(altT n sq q k).a≠0:=by simpa using h
        have hk:k<K:=by
          rcases Nat.lt_or_ge k K with c | c
          · exact c
          · rw [show k=K by omega] at h;exact absurd k3 h
        refine ⟨⟨tok.w,so.w,by omega,by omega,by omega⟩,⟨m.2,by omega,by omega,by omega⟩,⟨by omega,by omega,by omega,by omega⟩,br_intro (fun h2=>⟨⟨o1.w,tok1.w⟩,rfl,(k+1,false),hk,?_,by show K-(k+1)<K-k;omega⟩) fun h2=>⟨⟨o0.w,tok1.w⟩,rfl,(k+1,b),hk,?_,by show K-(k+1)<K-k;omega⟩⟩
        · have h2:k % 2=0:=by simpa using h2
          have g1:altM n sq q 1 (k+1+1)=addF (altM n sq q 1 (k+1)) (altT n sq q (k+1)):=if_pos (by omega)
          have g0:altM n sq q 0 (k+1+1)=altM n sq q 0 (k+1):=if_neg (by omega)
          have g2:(!decide (k % 2=0))=decide ((k+1) % 2=0):=by rw [decide_eq_true h2,decide_eq_false (show ¬ (k+1) % 2=0 by omega)];rfl
          unfold LKeep.at srSt
          rw [g0,g1,g2];rfl
        · have h2:¬ k % 2=0:=by simpa using h2
          have g0:altM n sq q 0 (k+1+1)=addF (altM n sq q 0 (k+1)) (altT n sq q (k+1)):=if_pos (by omega)
          have g1:altM n sq q 1 (k+1+1)=altM n sq q 1 (k+1):=if_neg (by omega)
          have g2:(!decide (k % 2=0))=decide ((k+1) % 2=0):=by rw [decide_eq_false h2,decide_eq_true (show (k+1) % 2=0 by omega)];rfl
          unfold LKeep.at srSt
          rw [g0,g1,g2];rfl
      · have h:(altT n sq q k).a=0:=by simpa using h
        have hk:k=K:=by
          rcases Nat.eq_zero_or_pos k with c | c
          · subst c
            have:(2:Int)^q.toNat=0:=h
            omega
          · rcases Nat.lt_or_ge k K with c2 | c2
            · exact absurd h (k4 k c c2)
            · omega
        subst hk
        have m0':=altM_e A 0 (k+1)
        have m1':=altM_e A 1 (k+1)
        have w4:∀ z:Fx,z.Ok→z.e≤2097152→Fw.mk (fw z).xs (IntKind.u64.wrap (z.e+4))=fw (widerF z 4):=fun z hz h=>by rw [wrap_w ⟨by have:=hz.2.2;omega,by omega⟩];rfl
        have ok:∀ {z:Fx},z.Ok→z.e≤2097152→(widerF z 4).Ok:=fun hz he=>⟨hz.1,hz.2.1,show 0≤_+_ by have:=hz.2.2.1;omega,show _+_≤_ by omega⟩
        have p0:=ok o0 (by omega)
        have p1:=ok o1 (by omega)
        rw [fe,fe,w4 _ o0 (by omega),w4 _ o1 (by omega),fw_f p0.1,fw_f p1.1]
        have le:(widerF (altM n sq q 1 (k+1)) 4).a+(widerF (altM n sq q 1 (k+1)) 4).e≤(widerF (altM n sq q 0 (k+1)) 4).a:=by
          have:(subF (widerF (altM n sq q 0 (k+1)) 4) (widerF (altM n sq q 1 (k+1)) 4)).a=(widerF (altM n sq q 0 (k+1)) 4).a-((widerF (altM n sq q 1 (k+1)) 4).a+(widerF (altM n sq q 1 (k+1)) 4).e):=rfl
          omega
        generalize subF (widerF (altM n sq q 0 (k+1)) 4) (widerF (altM n sq q 1 (k+1)) 4)=z at *
        have zo:z.Ok:=by
          have:blen z.a≤q.toNat+1+1+1:=blen_pow_le (by rw [Int.pow_succ,Int.pow_succ];omega)
          exact ⟨by omega,by omega,by omega,by omega⟩
        rw [fw_f zo.1]
        exact ⟨⟨p0.w,p1.w,le⟩,⟨zo.w,by omega,by omega⟩,rfl⟩
def sH1:List (FuncId×Spec):=(45,hSer) :: sG3
theorem sH1_ok:SpecsOk Tryz.prog sH1:=⟨hSer_ok,sG3_ok⟩
def sineH(t:Dx)(p:Int):Vx:=if t.zeroB=true then zeroIv else timesV (pointV t) (altR 2 t (p+48)) (p+48)
def cosineH(t:Dx)(p:Int):Vx:=altR 1 t (p+48)
theorem altR_sm{t:Dx}{f:Nat}{w:Int}(ht:0≤t.m)(h:small1 t)(f1:1≤f)(f2:f≤2)(w0:32≤w)(w1:w≤65536):(altR f t w).Sm 262144 :=
  (altR_iv (sqR_alt ht h.1 h.2 f1 f2 w0 w1)).sm (by omega) w1
def hSine:Spec:=specK [.d,.i .i64] fun (t:Dx) (p:Int)=>(some (preS t p),vF (sineH t p))
theorem hSine_vc(t:Dx)(p:Int)(Q:Tv→Prop):execF ⟨tys4,sH1⟩ (fun _=>none) 0 Tryz.f18 [.agg (dyL false t),.one (.int .i64 p)] Q=(br (Dx.zeroB t) (Q (Tv.sv (Sv.agg [At.bool false,At.words true [],At.int .i64 0,At.bool false,At.words true [],At.int .i64 0]))) (inR (p+48)∧eB 4611686018427387904 t∧(Dx.Sm 131072 t∧small1 t∧(1:Int)≤2∧(2:Int)≤2∧(32:Int)≤p+48∧p+48≤65536)∧(Vx.Sm 268435456 (pointV t)∧Vx.Sm 268435456 (altR 2 t (p+48))∧(0:Int)≤p+48∧p+48≤1099511627776)∧true=true∧Q (Tv.sv (Sv.agg (ivL true (timesV (pointV t) (altR 2 t (p+48)) (p+48))))))):=by kernel_rfl
theorem hSine_ok:SpecOk Tryz.prog 18 hSine :=
  specKW_ok (envOk tys4_ok sH1_ok) mixed Tryz.func18 rfl (by decide) (by decide) fun (t:Dx) ht (p:Int) _ hp=>⟨fun _=>none,0,by
    obtain ⟨st,h1,p0,p1⟩:preS t p:=hp
    have m0:=Dx.Wf.m0 ht
    have z1:=pointV_sm m0 st
    have z3:=altR_sm m0 h1 (f:=2) (w:=p+48) (by omega) (by omega) (by omega) (by omega)
    show execF _ _ _ _ _ (fun t'=>t'=vF (sineH t p)∨fgT t'=vF (sineH t p))
    refine (hSine_vc t p _).mpr (br_intro (fun h=>.inr ?_) fun h=>⟨⟨by omega,by omega⟩,st.eB (by omega),⟨st,h1,by omega,by omega,by omega,by omega⟩,⟨z1.mono (by omega),z3.mono (by omega),by omega,by omega⟩,rfl,.inr ?_⟩)
    · rw [sineH,if_pos h];rfl
    · rw [sineH,if_neg (by rw [h];simp)];rfl⟩
def hCosine:Spec:=specK [.d,.i .i64] fun (t:Dx) (p:Int)=>(some (preS t p),vT (cosineH t p))
theorem hCosine_vc(t:Dx)(p:Int)(Q:Tv→Prop):execF ⟨tys4,sH1⟩ (fun _=>none) 0 Tryz.f60 [.agg (dyL false t),.one (.int .i64 p)] Q=(inR (p+48)∧(Dx.Sm 131072 t∧small1 t∧(1:Int)≤1∧(1:Int)≤2∧(32:Int)≤p+48∧p+48≤65536)∧Q (Tv.sv (Sv.agg (ivL true (altR 1 t (p+48)))))):=by kernel_rfl
theorem hCosine_ok:SpecOk Tryz.prog 60 hCosine :=
  specK_ok (envOk tys4_ok sH1_ok) mixed Tryz.func60 rfl (by decide) (by decide) fun (t:Dx) _ (p:Int) _ hp=>⟨fun _=>none,0,by
    obtain ⟨st,h1,p0,p1⟩:preS t p:=hp
    exact (hCosine_vc t p _).mpr ⟨⟨by omega,by omega⟩,⟨st,h1,by omega,by omega,by omega,by omega⟩,rfl⟩⟩
def smallB(t:Dx):Bool:=leI (cmpD t (mkS 1 0)) 0 && leI (cmpD (mkS (-1) 0) t) 0
def hSmall:Spec:=specK [.d] fun (t:Dx)=>(some (t.Sm 34359738368),bT (smallB t))
theorem hSmall_vc(t:Dx)(Q:Tv→Prop):execF ⟨tys4,sH1⟩ (fun _=>none) 0 Tryz.f99 [.agg (dyL false t)] Q=(inR 1∧(Dx.Sm 34359738368 t∧Dx.Sm 34359738368 (mkS 1 0))∧br (leI (cmpD t (mkS 1 0)) 0) (inR (-1)∧(Dx.Sm 34359738368 (mkS (-1) 0)∧Dx.Sm 34359738368 t)∧true=true∧Q (bT (leI (cmpD (mkS (-1) 0) t) 0))) (true=true∧Q (bT false))):=by kernel_rfl
theorem hSmall_ok:SpecOk Tryz.prog 99 hSmall :=
  specK_ok (envOk tys4_ok sH1_ok) mixed Tryz.func99 rfl (by decide) (by decide) fun (t:Dx) _ hp=>⟨fun _=>none,0,by
    have st:t.Sm 34359738368:=hp
    have o1:(mkS 1 0).Sm 34359738368:=(mkS_sm6 (n:=1) (by omega)).mono (by omega)
    have o2:(mkS (-1) 0).Sm 34359738368:=(mkS_sm6 (n:=-1) (by omega)).mono (by omega)
    show execF _ _ _ _ _ (fun t'=>t'=bT (smallB t))
    refine (hSmall_vc t _).mpr ⟨⟨by omega,by omega⟩,⟨st,o1⟩,br_intro (fun h=>⟨⟨by omega,by omega⟩,⟨o2,st⟩,rfl,?_⟩) fun h=>⟨rfl,?_⟩⟩
    · rw [smallB,h];rfl
    · rw [smallB,h];rfl⟩
def sH2:List (FuncId×Spec):=[(18,hSine),(60,hCosine),(99,hSmall)] ++ sG3
theorem sH2_ok:SpecsOk Tryz.prog sH2:=⟨hSine_ok,hCosine_ok,hSmall_ok,sG3_ok⟩
theorem hWrong_vc(t:Dx)(p:Int)(Q:Tv→Prop):execF ⟨tys4,sH2⟩ (fun _=>none) 0 Tryz.f59 [.agg (dyL false t),.one (.int .i64 p)] Q=(br (!Dx.fitsB t) (Q (iT 2)) (br (ltI p 8) (Q (iT 2)) (br (ltI 4096 p) (Q (iT 2)) (Dx.Sm 34359738368 t∧br (!smallB t) (Q (iT 5)) (Q (iT 0)))))):=by kernel_rfl
def hWrong:Spec:=specK [.d,.i .i64] fun (t:Dx) (p:Int)=>(none,iT (faultD t p))
theorem small_iff{t:Dx}(ht:0≤t.m):smallB t=true↔¬ 0<cmpD (absD t) (mkS 1 0):=by
  have e:(mkS 1 0).rv=1:=rv_int 1
  have e2:(mkS (-1) 0).rv = -1:=rv_int (-1)
  have k3:=cmpD_gt0 (a:=absD t) (b:=mkS 1 0)
  have k1:=cmpD_le (a:=t) (b:=mkS 1 0)
  have k2:=cmpD_le (a:=mkS (-1) 0) (b:=t)
  rw [e,rv_abs ht] at k3
  rw [e] at k1
  rw [e2] at k2
  obtain ⟨a1,a2⟩:=rv_amt ht
  unfold smallB
  rw [Bool.and_eq_true,leI_true,leI_true,k1,k2,k3]
  rcases (show 0≤t.rv∨t.rv≤0 by grind) with c | c
  · have:=a1 c;constructor
    · intro h;grind
    · intro h;exact ⟨by grind,by grind⟩
  · have:=a2 c;constructor
    · intro h;grind
    · intro h;exact ⟨by grind,by grind⟩
theorem hWrong_ok:SpecOk Tryz.prog 59 hWrong :=
  specK_ok (envOk tys4_ok sH2_ok) mixed Tryz.func59 rfl (by decide) (by decide) fun (t:Dx) ht (p:Int) _ _=>⟨fun _=>none,0,by
    have m0:=Dx.Wf.m0 ht
    have hs:=small_iff m0
    show execF _ _ _ _ _ (fun t'=>t'=iT (faultD t p))
    have c0:∀ {b:Bool},t.fitsB=b→chkD t=if b=true then 0 else 2:=fun h=>by unfold chkD;rw [h]
    refine (hWrong_vc t p _).mpr (br_intro (fun h=>?_) fun h=>br_intro (fun h1=>?_) fun h1=>br_intro (fun h2=>?_) fun h2=>?_)
    · rw [faultD,if_neg (by rw [c0 (not_true h)];simp)]
    · rw [faultD,if_neg (by have:=ltI_true.1 h1;omega)]
    · rw [faultD,if_neg (by have:=ltI_true.1 h2;omega)]
    · have h:=not_false' h
      have h1:=ltI_false.1 h1
      have h2:=ltI_false.1 h2
      rw [faultD,if_pos ⟨by rw [c0 h];rfl,by omega,by omega⟩]
      refine ⟨(fits_sm h).mono (by omega),br_intro (fun h3=>?_) fun h3=>?_⟩
      · have h3:=not_true h3
        rw [h3] at hs
        rw [if_pos (by simp at hs;exact hs)]
      · have h3:=not_false' h3
        rw [h3] at hs
        rw [if_neg (by simp at hs;omega)]⟩
def sH3:List (FuncId×Spec):=(59,hWrong) :: sH2
theorem sH3_ok:SpecsOk Tryz.prog sH3:=⟨hWrong_ok,sH2_ok⟩
theorem fault_pre0{t:Dx}{p:Int}(ht:0≤t.m)(h:faultD t p=0):preS t p:=by
  obtain ⟨h1,h2,h3,h4⟩:=fault0 ht h
  exact ⟨(fits_sm h1).mono (by omega),h4,by omega,by omega⟩
def sinH(t:Dx)(p:Int):Vx×Int:=if faultD t p=0 then (sineH t p,0) else (zeroIv,faultD t p)
def cosH(t:Dx)(p:Int):Vx×Int:=if faultD t p=0 then (cosineH t p,0) else (zeroIv,faultD t p)
def hSin:Spec:=specK [.d,.i .i64] fun (t:Dx) (p:Int)=>(none,reT (sinH t p))
theorem hSin_vc(t:Dx)(p:Int)(Q:Tv→Prop):execF ⟨tys4,sH3⟩ (fun _=>none) 0 Tryz.f28 [.agg (dyL false t),.one (.int .i64 p)] Q=(br (neI (faultD t p) 0) (Q (Tv.tup [Sv.agg [At.bool false,At.words true [],At.int .i64 0,At.bool false,At.words true [],At.int .i64 0],Sv.one (At.int .i64 (faultD t p))])) (preS t p∧Q (Tv.tup [Sv.agg (ivL false (sineH t p)),Sv.one (At.int .i64 0)]))):=by kernel_rfl
theorem hSin_ok:SpecOk Tryz.prog 28 hSin :=
  specKW_ok (envOk tys4_ok sH3_ok) mixed Tryz.func28 rfl (by decide) (by decide) fun (t:Dx) ht (p:Int) _ _=>⟨fun _=>none,0,by
    have m0:=Dx.Wf.m0 ht
    show execF _ _ _ _ _ (fun t'=>t'=reT (sinH t p)∨fgT t'=reT (sinH t p))
    refine (hSin_vc t p _).mpr (br_intro (fun h=>.inr ?_) fun h=>?_)
    · rw [sinH,if_neg (neI_true.1 h)];rfl
    · have h:=neI_false.1 h
      exact ⟨fault_pre0 m0 h,.inr (by rw [sinH,if_pos h];rfl)⟩⟩
def hCos:Spec:=specK [.d,.i .i64] fun (t:Dx) (p:Int)=>(none,reT (cosH t p))
theorem hCos_vc(t:Dx)(p:Int)(Q:Tv→Prop):execF ⟨tys4,sH3⟩ (fun _=>none) 0 Tryz.f29 [.agg (dyL false t),.one (.int .i64 p)] Q=(br (neI (faultD t p) 0) (Q (Tv.tup [Sv.agg [At.bool false,At.words true [],At.int .i64 0,At.bool false,At.words true [],At.int .i64 0],Sv.one (At.int .i64 (faultD t p))])) (preS t p∧Q (Tv.tup [Sv.agg (ivL true (cosineH t p)),Sv.one (At.int .i64 0)]))):=by kernel_rfl
theorem hCos_ok:SpecOk Tryz.prog 29 hCos :=
  specKW_ok (envOk tys4_ok sH3_ok) mixed Tryz.func29 rfl (by decide) (by decide) fun (t:Dx) ht (p:Int) _ _=>⟨fun _=>none,0,by
    have m0:=Dx.Wf.m0 ht
    show execF _ _ _ _ _ (fun t'=>t'=reT (cosH t p)∨fgT t'=reT (cosH t p))
    refine (hCos_vc t p _).mpr (br_intro (fun h=>.inr ?_) fun h=>?_)
    · rw [cosH,if_neg (neI_true.1 h)];rfl
    · have h:=neI_false.1 h
      exact ⟨fault_pre0 m0 h,.inr (by rw [cosH,if_pos h];rfl)⟩⟩
def OneF(d:Dx):Prop:=∃ n m e,(0:Int)≤m∧d=mkD n m e
theorem OneF.p{d:Dx}(h:OneF d):0≤d.m:=by obtain ⟨n,m,e,h,rfl⟩:=h;exact mkD_p
theorem OneF.odd{d:Dx}(h:OneF d)(h0:d.m≠0):d.m % 2=1:=by
  obtain ⟨n,m,e,h,rfl⟩:=h
  have:m≠0:=fun k=>h0 ((mkD_m_zero (neg:=n) (e:=e) h).2 k)
  exact mkD_odd (by omega)
theorem OneF.zero{d:Dx}(h:OneF d)(h0:d.m=0):d=⟨false,[],0⟩:=by
  obtain ⟨n,m,e,h,rfl⟩:=h
  rw [(mkD_m_zero (neg:=n) (e:=e) h).1 h0,mkD_zero]
theorem oneD_f{d:Dx}(hd:0≤d.m):OneF (oneD d):=⟨_,_,_,hd,rfl⟩
theorem cutD_f{d:Dx}{p:Int}{up:Bool}(hd:0≤d.m):OneF (cutD d p up):=by
  have m0:0≤(oneD d).m:=oneD_p
  unfold cutD cutX
  split
  · exact oneD_f hd
  · have:=Int.ediv_nonneg m0 (show (0:Int)≤2^((blen (oneD d).m:Int)-p).toNat by have:=two_pow_pos ((blen (oneD d).m:Int)-p).toNat;omega)
    exact ⟨_,_,_,by split<;>omega,rfl⟩
theorem fits_rp{d:Dx}(h:OneF d){p A B:Int}(hr:Rp p d.rv)(hp:p≤32768)(hA:d.m≠0→p2 A≤(d.m:Rat)*p2 d.e)(hB:(d.m:Rat)*p2 d.e≤p2 B)(h1:-32768≤A-p)(h2:B≤32768):d.fitsB=true:=by
  have m0:=h.p
  by_cases hz:d.m=0
  · rw [h.zero hz];decide +kernel
  · have hodd:=h.odd hz
    obtain ⟨s,e,hs,s1,s2⟩:=hr
    have amt:(d.m:Rat)*p2 d.e=((s.natAbs:Int):Rat)*p2 e:=by
      obtain ⟨a1,a2⟩:=rv_amt m0
      rcases (show 0≤d.rv∨d.rv≤0 by grind) with c | c
      · rw [←a1 c,hs]
        have:0≤s:=by
          have:=p2_pos e
          rcases (show s<0∨0≤s by omega) with k | k
          · have k2:(s:Rat)<0:=cast_lt.2 k
            have:=Rat.mul_pos (show (0:Rat) < -(s:Rat) by grind) this
            grind
          · exact k
        rw [show (s.natAbs:Int)=s by omega]
      · rw [←a2 c,hs]
        have:s≤0:=by
          have:=p2_pos e
          rcases (show 0<s∨s≤0 by omega) with k | k
          · have k2:(0:Rat)<(s:Rat):=cast_lt.2 k
            have:=Rat.mul_pos k2 this
            grind
          · exact k
        rw [show (s.natAbs:Int) = -s by omega,Rat.intCast_neg];grind
    have hsa:((s.natAbs:Int):Rat)<p2 p:=by
      rcases (show (s.natAbs:Int)=s∨(s.natAbs:Int) = -s by omega) with c | c
      · rw [c];exact s1
      · rw [c,Rat.intCast_neg];grind
    have hm:d.m≤(s.natAbs:Int):=by
      rcases (show d.e<e∨e≤d.e by omega) with k | k
      · exfalso
        have e1:(d.m:Rat)=((s.natAbs*2^(e-d.e).toNat:Int):Rat):=by
          rw [rcM,←p2_toNat (show 0≤e-d.e by omega)]
          have:=p2_sub e d.e
          have q:=p2_pos d.e
          have h3:(d.m:Rat)*p2 d.e=((s.natAbs:Int):Rat)*p2 (e-d.e)*p2 d.e:=by rw [Rat.mul_assoc,this];exact amt
          have l1:=(mul_p2_le (a:=(d.m:Rat)) (b:=((s.natAbs:Int):Rat)*p2 (e-d.e)) d.e).1 (by rw [h3];exact Rat.le_refl)
          have l2:=(mul_p2_le (b:=(d.m:Rat)) (a:=((s.natAbs:Int):Rat)*p2 (e-d.e)) d.e).1 (by rw [h3];exact Rat.le_refl)
          exact Rat.le_antisymm l1 l2
        have e2:=Rat.intCast_inj.1 e1
        obtain ⟨j,hj⟩:∃ j,(e-d.e).toNat=j+1:=⟨(e-d.e).toNat-1,by omega⟩
        rw [hj,Int.pow_succ,←Int.mul_assoc] at e2
        omega
      · have q:p2 e≤p2 d.e:=p2_le (by omega)
        have h3:=rmL q (show (0:Rat)≤(d.m:Rat) from cast_le.2 m0)
        rw [amt] at h3
        exact cast_le.1 ((mul_p2_le e).1 h3)
    have hmp:(d.m:Rat)<p2 p:=by have:=cast_le.2 hm;grind
    have hp0:0<p:=by
      have:p2 0<p2 p:=by rw [p2_zero];have:(1:Rat)≤(d.m:Rat):=cast_le.2 (show (1:Int)≤d.m by omega);grind
      exact p2_lt_iff.1 this
    have hb:blen d.m≤p.toNat:=blen_le (by rw [p2_toNat (by omega)] at hmp;exact cast_lt.1 hmp)
    have a1:=amt_ge (m:=d.m) (e:=d.e) (by omega)
    have a2:=amt_lt (m:=d.m) (e:=d.e)
    have e1:A<d.e+(blen d.m:Int):=p2_lt_iff.1 (by have:=hA hz;grind)
    have e2:d.e+(blen d.m:Int)-1≤B:=by
      rcases (show B<(d.e+(blen d.m:Int)-1)∨(d.e+(blen d.m:Int)-1)≤B by omega) with k | k
      · have:=p2_lt k;grind
      · exact k
    have hbp:=blen_pos (n:=d.m) (by omega)
    have hl:(ws d.m).length≤1024:=ws_blen m0 (by omega)
    unfold Dx.fitsB greatB
    rw [decide_eq_false (by omega),decide_eq_true (show -32768≤d.e by omega),decide_eq_true (show d.e≤32768 by omega)]
    rfl
theorem fits_mk{n:Bool}{a e:Int}{N:Nat}(a0:0≤a)(hb:blen a≤N)(_:N≤65536)(h1:-32768≤e)(h2:e+N≤32768)(h0:e≤32768):(mkD n a e).fitsB=true:=by
  by_cases hz:a=0
  · rw [hz,mkD_zero];decide +kernel
  · have t:=tz_lt_blen (n:=a) (by omega)
    have hm:(mkD n a e).m≤a:=by rw [mkD_m a0];exact Int.ediv_le_self _ a0
    have hl:(ws (mkD n a e).m).length≤1024:=ws_blen mkD_p (by have:=blen_mono (m:=(mkD n a e).m) (n:=a) hm;omega)
    have he:(mkD n a e).e=e+(tz a:Int):=by unfold mkD;rw [if_neg hz]
    unfold Dx.fitsB greatB
    rw [he,decide_eq_false (by omega),decide_eq_true (show -32768≤e+(tz a:Int) by omega),decide_eq_true (show e+(tz a:Int)≤32768 by omega)]
    rfl
theorem AltIv.fits{f:Nat}{t:Dx}{w:Int}{v:Vx}(h:AltIv f t w v)(w0:0≤w)(w1:w≤32000):v.lo.fitsB=true∧v.hi.fitsB=true:=by
  obtain ⟨a,b,a0,a1,b0,b1,rfl⟩:=h.bits
  have k:∀ n:Int,n≤3*2^w.toNat→blen n≤w.toNat+1+1+1:=fun n hn=>blen_pow_le (by rw [Int.pow_succ,Int.pow_succ];have:=two_pow_pos w.toNat;omega)
  exact ⟨fits_mk a0 (k a a1) (by omega) (by omega) (by omega) (by omega),fits_mk b0 (k b b1) (by omega) (by omega) (by omega) (by omega)⟩
def NarV(δ:Rat)(v:Vx):Prop:=Nar δ v.lo.rv v.hi.rv∨Nar δ (-v.hi.rv) (-v.lo.rv)
theorem prod_pos{v u:Vx}(hv:v.P)(hu:u.P)(a0:0<v.lo.rv)(a1:v.lo.rv≤v.hi.rv)(c0:0<u.lo.rv)(c1:u.lo.rv≤u.hi.rv):(prodV v u).lo.rv=v.lo.rv*u.lo.rv∧(prodV v u).hi.rv=v.hi.rv*u.hi.rv:=by
  have l:=prod_lo hv hu
  obtain ⟨⟨x,y,hx,hy,h⟩,x',y',hx',hy',h'⟩:=prod_at hv hu
  have mono:∀ x y,(x=v.lo.rv∨x=v.hi.rv)→(y=u.lo.rv∨y=u.hi.rv)→v.lo.rv*u.lo.rv≤x*y∧x*y≤v.hi.rv*u.hi.rv:=fun x y hx hy=>by
    have x0:v.lo.rv≤x∧x≤v.hi.rv:=by rcases hx with rfl | rfl<;>exact ⟨by grind,by grind⟩
    have y0:u.lo.rv≤y∧y≤u.hi.rv:=by rcases hy with rfl | rfl<;>exact ⟨by grind,by grind⟩
    have m1:=rmR x0.1 (rlL c0)
    have m2:=rmL y0.1 (show 0≤x by grind)
    have m3:=rmR x0.2 (show 0≤y by grind)
    have m4:=rmL y0.2 (show 0≤v.hi.rv by grind)
    exact ⟨by grind,by grind⟩
  have a:=(l _ _ (.inl rfl) (.inl rfl)).1
  have b:=(l _ _ (.inr rfl) (.inr rfl)).2
  have c:=(mono x y hx hy).1
  have d:=(mono x' y' hx' hy').2
  exact ⟨by grind,by grind⟩
theorem prod_neg{v u:Vx}(hv:v.P)(hu:u.P)(a0:v.hi.rv<0)(a1:v.lo.rv≤v.hi.rv)(c0:0<u.lo.rv)(c1:u.lo.rv≤u.hi.rv):(prodV v u).lo.rv=v.lo.rv*u.hi.rv∧(prodV v u).hi.rv=v.hi.rv*u.lo.rv:=by
  have l:=prod_lo hv hu
  obtain ⟨⟨x,y,hx,hy,h⟩,x',y',hx',hy',h'⟩:=prod_at hv hu
  have mono:∀ x y,(x=v.lo.rv∨x=v.hi.rv)→(y=u.lo.rv∨y=u.hi.rv)→v.lo.rv*u.hi.rv≤x*y∧x*y≤v.hi.rv*u.lo.rv:=fun x y hx hy=>by
    have x0:v.lo.rv≤x∧x≤v.hi.rv:=by rcases hx with rfl | rfl<;>exact ⟨by grind,by grind⟩
    have y0:u.lo.rv≤y∧y≤u.hi.rv:=by rcases hy with rfl | rfl<;>exact ⟨by grind,by grind⟩
    have m1:=rmR x0.1 (show 0≤u.hi.rv by grind)
    have m2:=rmL y0.2 (show 0≤-x by grind)
    have m3:=rmR x0.2 (show 0≤u.lo.rv by grind)
    have m4:=rmL y0.1 (show 0≤-x by grind)
    exact ⟨by grind,by grind⟩
  have a:=(l _ _ (.inl rfl) (.inr rfl)).1
  have b:=(l _ _ (.inr rfl) (.inl rfl)).2
  have c:=(mono x y hx hy).1
  have d:=(mono x' y' hx' hy').2
  exact ⟨by grind,by grind⟩
theorem NarV.prod{δ η:Rat}{v u:Vx}(hv:v.P)(hu:u.P)(h:NarV δ v)(k:Nar η u.lo.rv u.hi.rv)(d0:0≤δ)(n0:0≤η):NarV (δ+η+δ*η) (prodV v u):=by
  rcases h with h | h
  · obtain ⟨e1,e2⟩:=prod_pos hv hu h.1 h.2.1 k.1 k.2.1
    left;rw [e1,e2];exact h.mul k d0 n0
  · obtain ⟨e1,e2⟩:=prod_neg hv hu (by have:=h.1;grind) (by have:=h.2.1;grind) k.1 k.2.1
    right
    rw [e1,e2]
    have:=h.mul k d0 n0
    rwa [show -(v.hi.rv*u.lo.rv) = -v.hi.rv*u.lo.rv by grind,show -(v.lo.rv*u.hi.rv) = -v.lo.rv*u.hi.rv by grind]
theorem enc_trim{s:Nat→Rat}{v:Vx}{p:Int}(hv:v.P)(hp:1≤p)(h:Enc s v.lo.rv v.hi.rv):Enc s (trimV v p).lo.rv (trimV v p).hi.rv :=
  h.wide (trim_best hv hp).1.2.1 (trim_best hv hp).2.2.1
theorem enc_times{s s':Nat→Rat}{v u:Vx}{p:Int}(hv:v.P)(hu:u.P)(hp:1≤p)(h:Enc s v.lo.rv v.hi.rv)(k:Enc s' u.lo.rv u.hi.rv):Enc (fun n=>s n*s' n) (timesV v u p).lo.rv (timesV v u p).hi.rv :=
  enc_trim (prodV_p v u) hp (h.mul k (prod_lo hv hu))
structure NM (δ L H a b:Rat):Prop where
  L0:0<L
  lo:L≤a
  hi:b≤H
  nar:Nar δ a b
theorem NM.trim{δ L H a b a' b':Rat}{p:Int}(h:NM δ L H a b)(d0:0≤δ)(hp:1≤p)(he:4*eps p≤1)(ha:Dn p a a')(hb:Up p b b'):NM (2*δ+4*eps p) (L/2) (2*H) a' b':=by
  have r1:=ha.rel hp h.nar.1
  have r2:=hb.rel hp (by have:=h.nar.1;have:=h.nar.2.1;grind)
  have e0:=eps_pos p
  have L0:=h.L0
  have lo:=h.lo
  have hi:=h.hi
  have n:=h.nar.2.1
  have m1:=rmR he (show 0≤a by grind)
  have m2:=rmR he (show 0≤b by grind)
  exact ⟨by grind,by grind,by grind,h.nar.trim d0 hp he ha hb⟩
theorem NM.mul{δ η L H L' H' a b c d:Rat}(h:NM δ L H a b)(k:NM η L' H' c d)(d0:0≤δ)(n0:0≤η):NM (δ+η+δ*η) (L*L') (H*H') (a*c) (b*d):=by
  have p1:=h.L0;have p2:=h.lo;have p3:=h.hi;have p4:=h.nar.2.1
  have q1:=k.L0;have q2:=k.lo;have q3:=k.hi;have q4:=k.nar.2.1
  have m1:=rmR p2 (rlL q1)
  have m2:=rmL q2 (show 0≤a by grind)
  have m3:=rmR p3 (show 0≤d by grind)
  have m4:=rmL q3 (show 0≤H by grind)
  exact ⟨Rat.mul_pos p1 q1,by grind,by grind,h.nar.mul k.nar d0 n0⟩
theorem NM.mono{δ η L H L' H' a b:Rat}(h:NM δ L H a b)(k:δ≤η)(l0:0<L')(l1:L'≤L)(h1:H≤H'):NM η L' H' a b :=
  ⟨l0,by have:=h.lo;grind,by have:=h.hi;grind,h.nar.mono k⟩
def VM(δ L H:Rat)(v:Vx):Prop:=NM δ L H v.lo.rv v.hi.rv∨NM δ L H (-v.hi.rv) (-v.lo.rv)
theorem VM.mono{δ η L H L' H':Rat}{v:Vx}(h:VM δ L H v)(k:δ≤η)(l0:0<L')(l1:L'≤L)(h1:H≤H'):VM η L' H' v :=
  h.elim (fun h=>.inl (h.mono k l0 l1 h1)) fun h=>.inr (h.mono k l0 l1 h1)
theorem VM.trim{δ L H:Rat}{v:Vx}{p:Int}(hv:v.P)(h:VM δ L H v)(d0:0≤δ)(hp:1≤p)(he:4*eps p≤1):VM (2*δ+4*eps p) (L/2) (2*H) (trimV v p):=by
  obtain ⟨b1,b2⟩:=trim_best hv hp
  rcases h with h | h
  · exact .inl (h.trim d0 hp he b1 b2)
  · exact .inr (h.trim d0 hp he b2.neg b1.neg)
theorem VM.prod{δ η L H L' H':Rat}{v u:Vx}(hv:v.P)(hu:u.P)(h:VM δ L H v)(k:NM η L' H' u.lo.rv u.hi.rv)(d0:0≤δ)(n0:0≤η):VM (δ+η+δ*η) (L*L') (H*H') (prodV v u):=by
  rcases h with h | h
  · obtain ⟨e1,e2⟩:=prod_pos hv hu h.nar.1 h.nar.2.1 k.nar.1 k.nar.2.1
    left;rw [e1,e2];exact h.mul k d0 n0
  · obtain ⟨e1,e2⟩:=prod_neg hv hu (by have:=h.nar.1;grind) (by have:=h.nar.2.1;grind) k.nar.1 k.nar.2.1
    right
    rw [e1,e2]
    have:=h.mul k d0 n0
    rwa [show -(v.hi.rv*u.lo.rv) = -v.hi.rv*u.lo.rv by grind,show -(v.lo.rv*u.hi.rv) = -v.lo.rv*u.hi.rv by grind]
theorem eps4{p:Int}(hp:3≤p):4*eps p≤1:=by
  have:eps p≤p2 (-2):=p2_le (by omega)
  have e:4*p2 (-2)=1:=by have:=p2_neg 2;have e2:p2 2=4:=by rw [p2_toNat (by omega)];rfl
                         rw [e2] at this;grind
  grind
theorem AltIv.nm{f:Nat}{t:Dx}{w:Int}{v:Vx}(h:AltIv f t w v):NM (p2 (24-w)) (p2 (-2)) (p2 2) v.lo.rv v.hi.rv:=by
  have e2:p2 2=4:=by rw [p2_toNat (by omega)];rfl
  have e:4*p2 (-2)=1:=by have:=p2_neg 2;rw [e2] at this;grind
  have lo:=h.lo
  have hi:=h.hi
  have wd:=h.wide
  have se:=h.enc.self
  have q:=p2_pos (22-w)
  have e24:p2 (24-w)=4*p2 (22-w):=by rw [←e2,←p2_add];congr 1;omega
  have m:=rmL lo (rlL q)
  exact ⟨p2_pos _,by grind,by grind,by grind,se,by rw [e24];grind⟩
theorem point_vm{t:Dx}(ht:0≤t.m)(h0:t.rv≠0){A:Int}(hA:p2 A≤(t.m:Rat)*p2 t.e)(h1:small1 t):VM 0 (p2 A) 1 (pointV t):=by
  have e1:(pointV t).lo.rv=t.rv:=rv_one ht
  have e2:(pointV t).hi.rv=t.rv:=rv_one ht
  obtain ⟨a1,a2⟩:=rv_amt ht
  unfold VM
  rw [e1,e2]
  rcases (show 0≤t.rv∨t.rv≤0 by grind) with c | c
  · left
    have:=a1 c
    exact ⟨p2_pos _,by grind,h1.1,Nar.self (by grind)⟩
  · right
    have:=a2 c
    exact ⟨p2_pos _,by grind,by have:=h1.2;grind,Nar.self (by grind)⟩
theorem enc_point{t:Dx}(ht:0≤t.m):Enc (fun _=>t.rv) (pointV t).lo.rv (pointV t).hi.rv:=by
  have e1:(pointV t).lo.rv=t.rv:=rv_one ht
  have e2:(pointV t).hi.rv=t.rv:=rv_one ht
  rw [e1,e2];exact Enc.const _
theorem sin_seq(t:Rat):sinS t=fun n=>t*altS 2 (t*t) n:=by funext n;exact sinS_alt t n
theorem cos_seq(t:Rat):cosS t=fun n=>altS 1 (t*t) n:=by funext n;exact cosS_alt t n
theorem p2_half(a:Int):2*p2 a=p2 (a+1):=by rw [Int.add_comm,p2_add,p2_one]
theorem p2_dbl(a:Int):p2 a+p2 a=p2 (a+1):=by rw [←p2_half];grind
theorem sine_zero{t:Dx}(ht:0≤t.m):t.zeroB=true↔t.rv=0:=zeroB_rv ht
theorem times_vm{δ η L H L' H':Rat}{v u:Vx}{p:Int}(hv:v.P)(hu:u.P)(h:VM δ L H v)(k:NM η L' H' u.lo.rv u.hi.rv)(d0:0≤δ)(n0:0≤η)(hp:3≤p):VM (2*(δ+η+δ*η)+4*eps p) (L*L' / 2) (2*(H*H')) (timesV v u p) :=
  (h.prod hv hu k d0 n0).trim (prodV_p v u) (by have:=rmN d0 n0;grind) (by omega) (eps4 hp)
theorem sineV_iv{t:Dx}{p:Int}(ht:0≤t.m)(h1:small1 t)(h0:t.rv≠0){A:Int}(hA:p2 A≤(t.m:Rat)*p2 t.e)(p0:0≤p)(p1:p≤60000) :
    (sineV t p).P∧Enc (sinS t.rv) (sineV t p).lo.rv (sineV t p).hi.rv∧VM (p2 (-36-p)) (p2 (A-4)) (p2 4) (sineV t p):=by
  have hz:¬ t.zeroB=true:=fun h=>h0 ((sine_zero ht).1 h)
  have I:=altV_iv (sqS_alt ht h1.1 h1.2 (f:=2) (by omega) (by omega) (w:=p+64) (by omega) (by omega))
  unfold sineV
  rw [if_neg hz]
  have E:=enc_times (p:=p+64) (trimV_p (pointV t) (p+64)) I.p (by omega) (enc_trim (pointV_p t) (by omega) (enc_point ht)) I.enc
  rw [←sin_seq] at E
  refine ⟨trimV_p _ _,E,?_⟩
  have V:=times_vm (p:=p+64) (trimV_p (pointV t) (p+64)) I.p ((point_vm ht h0 hA h1).trim (pointV_p t) Rat.le_refl (p:=p+64) (by omega) (eps4 (by omega))) I.nm (by have:=eps_pos (p+64);grind) (rlL (p2_pos _)) (by omega)
  refine V.mono ?_ (p2_pos _) ?_ ?_
  · have e1:eps (p+64)=p2 (-63-p):=by unfold eps;congr 1;omega
    have e2:24-(p+64) = -40-p:=by omega
    rw [e1,e2]
    have q:4*p2 (-63-p)=p2 (-61-p):=by rw [show (4:Rat)*p2 (-63-p)=2*(2*p2 (-63-p)) by grind,p2_half,p2_half];congr 1;omega
    rw [Rat.mul_zero,Rat.zero_add,q]
    have m1:p2 (-61-p)≤p2 (-40-p):=p2_le (by omega)
    have m2:p2 (-61-p)≤1:=by have:=p2_le (show -61-p≤0 by omega);rwa [p2_zero] at this
    have m3:=rmR m2 (rlL (p2_pos (-40-p)))
    have s1:=p2_dbl (-40-p)
    have s2:=p2_dbl (-39-p)
    have s3:=p2_dbl (-38-p)
    have s4:=p2_dbl (-37-p)
    rw [show -40-p+1 = -39-p by omega] at s1
    rw [show -39-p+1 = -38-p by omega] at s2
    rw [show -38-p+1 = -37-p by omega] at s3
    rw [show -37-p+1 = -36-p by omega] at s4
    have:=p2_pos (-40-p)
    grind
  · have e:p2 (A-4)*16=p2 A:=by
      have h:=p2_sub A 4
      have e4:p2 4=16:=by rw [p2_toNat (by omega)];rfl
      rwa [e4] at h
    have e2:p2 A*p2 (-2)=p2 (A-2):=by rw [←p2_add];rfl
    have e3:p2 (A-2)=4*p2 (A-4):=by
      rw [show (4:Rat)*p2 (A-4)=2*(2*p2 (A-4)) by grind,p2_half,p2_half];congr 1;omega
    have:p2 A/2*p2 (-2)/2=p2 (A-4):=by grind
    rw [this];exact Rat.le_refl
  · have e2:p2 2=4:=by rw [p2_toNat (by omega)];rfl
    have e4:p2 4=16:=by rw [p2_toNat (by omega)];rfl
    rw [e2,e4];grind
theorem enc_cos0:Enc (cosS 0) 1 1:=fun e he=>⟨1,fun n hn=>by
  obtain ⟨m,rfl⟩:∃ m,n=m+1:=⟨n-1,by omega⟩
  rw [cosS_zero];exact ⟨by grind,by grind⟩⟩
theorem cosineV_iv{t:Dx}{p:Int}(ht:0≤t.m)(h1:small1 t)(p0:0≤p)(p1:p≤60000) :
    (cosineV t p).P∧Enc (cosS t.rv) (cosineV t p).lo.rv (cosineV t p).hi.rv∧NM (p2 (-40-p)) (p2 (-2)) (p2 2) (cosineV t p).lo.rv (cosineV t p).hi.rv:=by
  unfold cosineV
  split
  · rename_i h
    have h0:=(sine_zero ht).1 h
    have e1:(pointV (mkS 1 0)).lo.rv=1:=(rv_one mkS_p).trans (rv_int 1)
    have e2:(pointV (mkS 1 0)).hi.rv=1:=(rv_one mkS_p).trans (rv_int 1)
    rw [e1,e2,h0]
    have q2:p2 2=4:=by rw [p2_toNat (by omega)];rfl
    have q:4*p2 (-2)=1:=by have:=p2_neg 2;rw [q2] at this;grind
    refine ⟨⟨oneD_p,oneD_p⟩,enc_cos0,p2_pos _,by grind,by grind,(Nar.self (by grind)).mono (rlL (p2_pos _))⟩
  · have I:=altV_iv (sqS_alt ht h1.1 h1.2 (f:=1) (by omega) (by omega) (w:=p+64) (by omega) (by omega))
    refine ⟨I.p,by rw [cos_seq];exact I.enc,?_⟩
    have:=I.nm
    rwa [show 24-(p+64) = -40-p by omega] at this
theorem cosineH_iv{t:Dx}{p:Int}(ht:0≤t.m)(h1:small1 t)(p0:0≤p)(p1:p≤60000) :
    AltIv 1 t (p+48) (cosineH t p)∧Enc (cosS t.rv) (cosineH t p).lo.rv (cosineH t p).hi.rv∧NM (p2 (-24-p)) (p2 (-2)) (p2 2) (cosineH t p).lo.rv (cosineH t p).hi.rv:=by
  have I:=altR_iv (sqR_alt ht h1.1 h1.2 (f:=1) (by omega) (by omega) (w:=p+48) (by omega) (by omega))
  refine ⟨I,by rw [cos_seq];exact I.enc,?_⟩
  have:=I.nm
  rwa [show 24-(p+48) = -24-p by omega] at this
theorem sineH_iv{t:Dx}{p:Int}(ht:0≤t.m)(h1:small1 t)(h0:t.rv≠0){A:Int}(hA:p2 A≤(t.m:Rat)*p2 t.e)(p0:0≤p)(p1:p≤60000) :
    (sineH t p).P∧Enc (sinS t.rv) (sineH t p).lo.rv (sineH t p).hi.rv∧VM (p2 (-21-p)) (p2 (A-3)) (p2 4) (sineH t p):=by
  have hz:¬ t.zeroB=true:=fun h=>h0 ((sine_zero ht).1 h)
  have I:=altR_iv (sqR_alt ht h1.1 h1.2 (f:=2) (by omega) (by omega) (w:=p+48) (by omega) (by omega))
  unfold sineH
  rw [if_neg hz]
  have E:=enc_times (p:=p+48) (pointV_p t) I.p (by omega) (enc_point ht) I.enc
  rw [←sin_seq] at E
  refine ⟨trimV_p _ _,E,?_⟩
  have V:=times_vm (p:=p+48) (pointV_p t) I.p (point_vm ht h0 hA h1) I.nm Rat.le_refl (rlL (p2_pos _)) (by omega)
  refine V.mono ?_ (p2_pos _) ?_ ?_
  · have e1:eps (p+48)=p2 (-47-p):=by unfold eps;congr 1;omega
    have e2:24-(p+48) = -24-p:=by omega
    rw [e1,e2,Rat.zero_mul,Rat.add_zero,Rat.zero_add,p2_half]
    have q:4*p2 (-47-p)=p2 (-45-p):=by rw [show (4:Rat)*p2 (-47-p)=2*(2*p2 (-47-p)) by grind,p2_half,p2_half];congr 1;omega
    rw [q]
    have m1:p2 (-45-p)≤p2 (-22-p):=p2_le (by omega)
    have m2:p2 (-24-p+1)≤p2 (-22-p):=p2_le (by omega)
    have s:=p2_dbl (-22-p)
    rw [show -22-p+1 = -21-p by omega] at s
    grind
  · have e2:p2 A*p2 (-2)=p2 (A-2):=by rw [←p2_add];rfl
    have e3:p2 (A-2)=2*p2 (A-3):=by rw [p2_half];congr 1;omega
    have:p2 A*p2 (-2)/2=p2 (A-3):=by grind
    rw [this];exact Rat.le_refl
  · have e2:p2 2=4:=by rw [p2_toNat (by omega)];rfl
    have e4:p2 4=16:=by rw [p2_toNat (by omega)];rfl
    rw [e2,e4];grind
theorem eps8(p:Int):4*eps (p+8)=p2 (-5-p):=by
  unfold eps
  rw [show (4:Rat)*p2 (1-(p+8))=2*(2*p2 (1-(p+8))) by grind,p2_half,p2_half];congr 1;omega
theorem cut_delta{δ:Rat}{p:Int}(h:δ≤p2 (-6-p)):2*δ+4*eps (p+8)≤p2 (-4-p):=by
  rw [eps8]
  have s:=p2_dbl (-5-p)
  have s2:=p2_half (-6-p)
  rw [show -5-p+1 = -4-p by omega] at s
  rw [show -6-p+1 = -5-p by omega] at s2
  grind
theorem half_p2(a:Int):p2 a/2=p2 (a-1):=by
  have:=p2_half (a-1)
  rw [show a-1+1=a by omega] at this
  grind
theorem cut_vm{v:Vx}{δ:Rat}{A B p:Int}(hv:v.P)(h:VM δ (p2 A) (p2 B) v)(d0:0≤δ)(hd:δ≤p2 (-6-p))(p0:0≤p):VM (p2 (-4-p)) (p2 (A-1)) (p2 (B+1)) (trimV v (p+8)):=by
  have V:=h.trim hv d0 (p:=p+8) (by omega) (eps4 (by omega))
  rw [half_p2,p2_half] at V
  exact V.mono (cut_delta hd) (p2_pos _) Rat.le_refl Rat.le_refl
theorem vm_amt{v:Vx}{δ L H:Rat}(hv:v.P)(h:VM δ L H v):(L≤(v.lo.m:Rat)*p2 v.lo.e∧(v.lo.m:Rat)*p2 v.lo.e≤H)∧L≤(v.hi.m:Rat)*p2 v.hi.e∧(v.hi.m:Rat)*p2 v.hi.e≤H:=by
  obtain ⟨a1,a2⟩:=rv_amt hv.1
  obtain ⟨b1,b2⟩:=rv_amt hv.2
  rcases h with h | h
  · have n:=h.nar;have l:=h.lo;have k:=h.hi;have z:=h.L0
    have n1:=n.1;have n2:=n.2.1
    rw [←a1 (by grind),←b1 (by grind)]
    exact ⟨⟨by grind,by grind⟩,by grind,by grind⟩
  · have n:=h.nar;have l:=h.lo;have k:=h.hi;have z:=h.L0
    have n1:=n.1;have n2:=n.2.1
    rw [←a2 (by grind),←b2 (by grind)]
    exact ⟨⟨by grind,by grind⟩,by grind,by grind⟩
theorem vm_le{v:Vx}{δ L H:Rat}(h:VM δ L H v):v.lo.rv≤v.hi.rv:=by
  rcases h with h | h
  · exact h.nar.2.1
  · have:=h.nar.2.1;grind
theorem cut_right{w:Vx}{δ:Rat}{A B p:Int}(hw:w.P)(h:VM δ (p2 A) (p2 B) (trimV w p))(p0:1≤p)(p1:p≤32768)(hA:-32768≤A-p)(hB:B≤32768):rightV (trimV w p)=true:=by
  obtain ⟨⟨l1,l2⟩,h1,h2⟩:=vm_amt (trimV_p w p) h
  obtain ⟨b1,b2⟩:=trim_best hw p0
  exact right_of (fits_rp (cutD_f hw.1) b1.1 p1 (fun _=>l1) l2 hA hB) (fits_rp (cutD_f hw.2) b2.1 p1 (fun _=>h1) h2 hA hB) (vm_le h)
theorem narrow_of{v:Vx}{δ L H:Rat}{p:Int}(hv:v.P)(hr:rightV v=true)(p0:0≤p)(h:VM δ L H v)(hd:δ≤p2 (-p)):narrowB v p=true:=by
  have f:=right_fits hr
  rw [narrowB,hr,show leI 0 p=true from leI_true.2 p0]
  show narrowV v p=true
  have s1:=sgn_rv hv.1
  have s2:=sgn_rv hv.2
  have q:=p2_pos p
  have i:=p2_neg p
  have wd:(lessD v.hi v.lo).zeroB=false→narrowX (lessD v.hi v.lo) (if v.lo.sgn<0 then absD v.hi else absD v.lo) p=decide ((lessD v.hi v.lo).rv*p2 p≤(if v.lo.sgn<0 then absD v.hi else absD v.lo).rv):=fun hz=>by
    refine narrowX_eq lessD_p (by split<;>exact absD_p) (wide_ge hv hr hz) ?_
    split
    · rw [rv_abs hv.2];exact fits_lt f.2.1
    · rw [rv_abs hv.1];exact fits_lt f.1
  have wr:(lessD v.hi v.lo).rv=v.hi.rv-v.lo.rv:=rv_less hv.2 hv.1
  unfold narrowV
  rcases h with h | h
  · have n:=h.nar.mono hd
    obtain ⟨n1,n2,n3⟩:=n
    have e1:v.lo.sgn=1:=by rcases s1 with ⟨a,b⟩|⟨a,b⟩|⟨a,b⟩<;>first | exact a | (exfalso;grind)
    have e2:v.hi.sgn=1:=by rcases s2 with ⟨a,b⟩|⟨a,b⟩|⟨a,b⟩<;>first | exact a | (exfalso;grind)
    rw [e1,e2,if_neg (by omega),if_neg (by omega)]
    split
    · rfl
    · rename_i hz
      have hz:(lessD v.hi v.lo).zeroB=false:=by simpa using hz
      rw [e1] at wd
      rw [wd hz,decide_eq_true_eq,wr,if_neg (by omega),rv_abs hv.1,←(rv_amt hv.1).1 (by grind)]
      have m:=rmR (show v.hi.rv-v.lo.rv≤p2 (-p)*v.lo.rv by grind) (rlL q)
      have e:p2 (-p)*v.lo.rv*p2 p=v.lo.rv:=by rw [show p2 (-p)*v.lo.rv*p2 p=v.lo.rv*(p2 (-p)*p2 p) by grind,i,Rat.mul_one]
      grind
  · have n:=h.nar.mono hd
    obtain ⟨n1,n2,n3⟩:=n
    have e1:v.lo.sgn = -1:=by rcases s1 with ⟨a,b⟩|⟨a,b⟩|⟨a,b⟩<;>first | exact a | (exfalso;grind)
    have e2:v.hi.sgn = -1:=by rcases s2 with ⟨a,b⟩|⟨a,b⟩|⟨a,b⟩<;>first | exact a | (exfalso;grind)
    rw [e1,e2,if_neg (by omega),if_neg (by omega)]
    split
    · rfl
    · rename_i hz
      have hz:(lessD v.hi v.lo).zeroB=false:=by simpa using hz
      rw [e1] at wd
      rw [wd hz,decide_eq_true_eq,wr,if_pos (by omega),rv_abs hv.2,←(rv_amt hv.2).2 (by grind)]
      have m:=rmR (show v.hi.rv-v.lo.rv≤p2 (-p)*(-v.hi.rv) by grind) (rlL q)
      have e:p2 (-p)*(-v.hi.rv)*p2 p = -v.hi.rv:=by rw [show p2 (-p)*(-v.hi.rv)*p2 p = -v.hi.rv*(p2 (-p)*p2 p) by grind,i,Rat.mul_one]
      grind
theorem meets_of{v u:Vx}{s:Nat→Rat}(hr:rightV v=true)(hu:rightV u=true)(h:Enc s v.lo.rv v.hi.rv)(k:Enc s u.lo.rv u.hi.rv):meetsV v u=true:=by
  rw [meetsV,hr,hu,show leI (cmpD v.lo u.hi) 0=true from leI_true.2 (cmpD_le.2 (h.meets k)),show leI (cmpD u.lo v.hi) 0=true from leI_true.2 (cmpD_le.2 (k.meets h))]
  rfl
section
variable {C:Base} {w:World} {A:Nat→Option Nat}
end
def sgnS(turned:Bool)(r:Nat→Rat)(n:Nat):Rat:=sumTo (fun k=>(if turned=true then alt k else 1)*r k) n
def apow(n:Int):Nat→Rat
  | 0=>(n:Rat)⁻¹
  | k+1=>apow n k*((n*n:Int):Rat)⁻¹
def atT(n:Int)(k:Nat):Rat:=apow n k*((2*(k:Int)+1:Int):Rat)⁻¹
structure InvOk (n w:Int):Prop where
  n0:5≤n
  n1:n≤10000
  w0:32≤w
  w1:w≤65536
section
variable {n w:Int} (h:InvOk n w)
include h
end
section
variable {n w:Int} (h:InvOk n w)
include h
end
def piS(m:Nat):Rat:=16*sgnS true (atT 5) m + -(4*sgnS true (atT 239) m)
section
variable {n w:Int} (h:InvOk n w)
include h
end
section
variable {n w:Int} (h:InvOk n w)
include h
end
structure HfIv (d:Rat) (h:Vx):Prop where
  p:h.P
  enc:Enc piS (2*h.lo.rv) (2*h.hi.rv)
  lo:3/2≤h.lo.rv
  hi:h.hi.rv≤2
  nar:h.hi.rv≤h.lo.rv+d
section
variable {d:Rat} {h:Vx} (k:HfIv d h) {x:Dx} (hx:0≤x.m) {w:Int} (hw:1≤w)
include k hx hw
end
section
variable {n w:Int} (h:InvOk n w)
include h
end
section
variable {d:Rat} {h:Vx} (k:HfIv d h) {x:Dx} (hx:0≤x.m) {w:Int} (hw:1≤w)
include k hx hw
end
def wsK:Nat→Int→List Int
  | 0,_=>[]
  | k+1,n=>if 0<n then (n % 18446744073709551616) :: wsK k (n/18446744073709551616) else []
theorem wsK_eq:∀ {k:Nat} {n:Int},n<2^k→ws n=wsK k n
  | 0,n,h=>by rw [ws_nonpos (by simp at h;omega)];rfl
  | k+1,n,h=>by
    unfold wsK
    by_cases hp:0<n
    · have p:=two_pow_pos k
      rw [Int.pow_succ] at h
      rw [ws_pos hp,if_pos hp,wsK_eq (k:=k) (by omega)]
    · rw [ws_nonpos (by omega),if_neg hp]
theorem ws_K(n:Int):ws n=wsK (blen n) n:=wsK_eq (blen_lt n)
def fitsK(d:Dx):Bool:=decide ((wsK (blen d.m) d.m).length≤1024) && decide (-32768≤d.e) && decide (d.e≤32768)
def rightK(v:Vx):Bool:=fitsK v.lo && (fitsK v.hi && decide (cmpD v.lo v.hi≤0))
theorem great_K(m:Int):(!greatB m)=decide ((wsK (blen m) m).length≤1024):=by
  unfold greatB;rw [←ws_K]
  by_cases h:(ws m).length≤1024
  · rw [decide_eq_true h,decide_eq_false (by omega)];rfl
  · rw [decide_eq_false h,decide_eq_true (by omega)];rfl
theorem fits_K(d:Dx):d.fitsB=fitsK d:=by unfold Dx.fitsB fitsK;rw [great_K]
theorem right_K(v:Vx):rightV v=rightK v:=by unfold rightV rightK;rw [fits_K,fits_K]
def farD(d:Dx):Bool:=!d.zeroB && ltI (d.e+(blen d.m:Int)-1) (-16384)
def lFar:Spec:=specK [.d] fun (d:Dx)=>(some (eB 2305843009213693952 d),bT (farD d))
theorem lFar_vc(d:Dx)(Q:Tv→Prop):execF ⟨tys4,sG3⟩ (fun _=>none) 0 Tryz.f31 [.agg (dyL false d)] Q=(br (!Dx.zeroB d) (eB 2305843009213693952 d∧Q (bT (ltI (d.e+(↑(blen (Dx.m d)):Int)-1) (-16384)))) (Q (bT false))):=by kernel_rfl
theorem lFar_ok:SpecOk Tryz.prog 31 lFar :=
  specK_ok (envOk tys4_ok sG3_ok) mixed Tryz.func31 rfl (by decide) (by decide) fun (d:Dx) _ hp=>⟨fun _=>none,0,by
    have hp:eB 2305843009213693952 d:=hp
    show execF _ _ _ _ _ (fun t=>t=bT (farD d))
    refine (lFar_vc d _).mpr (br_intro (fun h=>⟨hp,?_⟩) fun h=>?_)
    · rw [farD,h];rfl
    · rw [farD,h];rfl⟩
def xVVb(f:Vx→Vx→Bool):Spec:=specK [.v,.v] fun (v:Vx) (u:Vx)=>(none,bT (f v u))
def xVIb(f:Vx→Int→Bool):Spec:=specK [.v,.i .i64] fun (v:Vx) (p:Int)=>(none,bT (f v p))
def xDi(f:Dx→Int):Spec:=specK [.d] fun (d:Dx)=>(none,iT (f d))
def xDIr(f:Dx→Int→Vx×Int):Spec:=specK [.d,.i .i64] fun (d:Dx) (p:Int)=>(none,reT (f d p))
def goodB(v u:Vx)(p:Int):Bool:=if sameV u zeroIv=true then sameV v u else narrowB v p && (neI v.lo.sgn 0 && meetsV v u)
def lGood:Spec:=specK [.v,.v,.i .i64] fun (v:Vx) (u:Vx) (p:Int)=>(none,bT (goodB v u p))
def sGd(fS:Vx→Vx→Bool)(fN:Vx→Int→Bool)(fG:Dx→Int)(fM:Vx→Vx→Bool):List (FuncId×Spec):=[(14,xVVb fS),(16,xVIb fN),(38,xDi fG),(17,xVVb fM)]
theorem sGd_ok:SpecsOk Tryz.prog (sGd sameV narrowB Dx.sgn meetsV):=⟨gSame_ok,gNarrow_ok,fSign_ok,gMeets_ok,trivial⟩
theorem lGood_vc(v u:Vx)(p:Int)(fS:Vx→Vx→Bool)(fN:Vx→Int→Bool)(fG:Dx→Int)(fM:Vx→Vx→Bool)(Q:Tv→Prop):execF ⟨tys4,sGd fS fN fG fM⟩ (fun _=>none) 0 Tryz.f61 [.agg (ivL false v),.agg (ivL false u),.one (.int .i64 p)] Q=(br (fS u (Vx.mk (Dx.mk false [] 0) (Dx.mk false [] 0))) (Q (bT (fS v u))) (br (fN v p) (br (neI (fG v.lo) 0) (Q (bT (fM v u))) (Q (bT false))) (Q (bT false)))):=by kernel_rfl
theorem lGood_ok:SpecOk Tryz.prog 61 lGood :=
  specK_ok (envOk tys4_ok sGd_ok) mixed Tryz.func61 rfl (by decide) (by decide) fun (v:Vx) _ (u:Vx) _ (p:Int) _ _=>⟨fun _=>none,0,by
    show execF _ _ _ _ _ (fun t=>t=bT (goodB v u p))
    refine (lGood_vc v u p sameV narrowB Dx.sgn meetsV _).mpr (br_intro (fun h=>?_) fun h=>br_intro (fun h1=>br_intro (fun h2=>?_) fun h2=>?_) fun h1=>?_)
    · rw [goodB,if_pos (show sameV u zeroIv=true from h)]
    · rw [goodB,if_neg (by rw [show sameV u zeroIv=false from h];simp),h1,h2];rfl
    · rw [goodB,if_neg (by rw [show sameV u zeroIv=false from h];simp),h1,h2];rfl
    · rw [goodB,if_neg (by rw [show sameV u zeroIv=false from h];simp),h1];rfl⟩
def likeB(v:Vx)(why:Int)(u:Vx)(no p:Int)(far:Bool):Bool :=
  if neI why 0=true∧sameV v zeroIv=false then false else if eqI no 0=true∧far=true then eqI why 3 || eqI why 0 else if neI no 0=true then eqI why no else eqI why 0 && goodB v u p
def lLike:Spec:=specK [.v,.i .i64,.v,.i .i64,.i .i64,.b] fun (v:Vx) (why:Int) (u:Vx) (no:Int) (p:Int) (far:Bool)=>(none,bT (likeB v why u no p far))
def sLk(fS:Vx→Vx→Bool)(fD:Vx→Vx→Int→Bool):List (FuncId×Spec):=[(14,xVVb fS),(61,specK [.v,.v,.i .i64] fun (v:Vx) (u:Vx) (p:Int)=>(none,bT (fD v u p)))]
theorem sLk_ok:SpecsOk Tryz.prog (sLk sameV goodB):=⟨gSame_ok,lGood_ok,trivial⟩
theorem lLike_vc(v:Vx)(why:Int)(u:Vx)(no p:Int)(far:Bool)(fS:Vx→Vx→Bool)(fD:Vx→Vx→Int→Bool)(Q:Tv→Prop):execF ⟨tys4,sLk fS fD⟩ (fun _=>none) 0 Tryz.f30 [.agg (ivL false v),.one (.int .i64 why),.agg (ivL false u),.one (.int .i64 no),.one (.int .i64 p),.one (.bool far)] Q=(br (neI why 0) (br (!fS v (Vx.mk (Dx.mk false [] 0) (Dx.mk false [] 0))) (Q (bT false)) (br (eqI no 0) (br far (br (eqI why 3) (Q (bT true)) (Q (bT (eqI why 0)))) (br (neI no 0) (Q (bT (eqI why no))) (br (eqI why 0) (Q (bT (fD v u p))) (Q (bT false))))) (br (neI no 0) (Q (bT (eqI why no))) (br (eqI why 0) (Q (bT (fD v u p))) (Q (bT false)))))) (br (eqI no 0) (br far (br (eqI why 3) (Q (bT true)) (Q (bT (eqI why 0)))) (br (neI no 0) (Q (bT (eqI why no))) (br (eqI why 0) (Q (bT (fD v u p))) (Q (bT false))))) (br (neI no 0) (Q (bT (eqI why no))) (br (eqI why 0) (Q (bT (fD v u p))) (Q (bT false)))))):=by kernel_rfl
theorem lLike_ok:SpecOk Tryz.prog 30 lLike :=
  specK_ok (envOk tys4_ok sLk_ok) mixed Tryz.func30 rfl (by decide) (by decide) fun (v:Vx) _ (why:Int) _ (u:Vx) _ (no:Int) _ (p:Int) _ (far:Bool) _ _=>⟨fun _=>none,0,by
    show execF _ _ _ _ _ (fun t=>t=bT (likeB v why u no p far))
    refine (lLike_vc v why u no p far sameV goodB _).mpr ?_
    have rest:(sameV v zeroIv=true∨neI why 0=false)→br (eqI no 0) (br far (br (eqI why 3) (bT true=bT (likeB v why u no p far)) (bT (eqI why 0)=bT (likeB v why u no p far))) (br (neI no 0) (bT (eqI why no)=bT (likeB v why u no p far)) (br (eqI why 0) (bT (goodB v u p)=bT (likeB v why u no p far)) (bT false=bT (likeB v why u no p far)))))
        (br (neI no 0) (bT (eqI why no)=bT (likeB v why u no p far)) (br (eqI why 0) (bT (goodB v u p)=bT (likeB v why u no p far)) (bT false=bT (likeB v why u no p far)))):=fun h=>by
      have h1:¬ (neI why 0=true∧sameV v zeroIv=false):=fun k=>by
        rcases h with h | h
        · rw [h] at k;exact absurd k.2 (by simp)
        · rw [h] at k;exact absurd k.1 (by simp)
      unfold likeB
      rw [if_neg h1]
      have two:¬ (eqI no 0=true∧far=true)→br (neI no 0) (bT (eqI why no)=bT (if eqI no 0=true∧far=true then eqI why 3 || eqI why 0 else if neI no 0=true then eqI why no else eqI why 0 && goodB v u p)) (br (eqI why 0) (bT (goodB v u p)=bT (if eqI no 0=true∧far=true then eqI why 3 || eqI why 0 else if neI no 0=true then eqI why no else eqI why 0 && goodB v u p)) (bT false=bT (if eqI no 0=true∧far=true then eqI why 3 || eqI why 0 else if neI no 0=true then eqI why no else eqI why 0 && goodB v u p))):=fun k=>by
        rw [if_neg k]
        refine br_intro (fun a=>?_) fun a=>br_intro (fun b=>?_) fun b=>?_
        · rw [if_pos a]
        · rw [if_neg (by rw [a];simp),b];rfl
        · rw [if_neg (by rw [a];simp),b];rfl
      refine br_intro (fun a=>br_intro (fun b=>br_intro (fun c=>?_) fun c=>?_) fun b=>two (fun k=>by rw [b] at k;exact absurd k.2 (by simp))) fun a=>two (fun k=>by rw [a] at k;exact absurd k.1 (by simp))
      · rw [if_pos ⟨a,b⟩,c];rfl
      · rw [if_pos ⟨a,b⟩,c];rfl
    refine br_intro (fun a=>br_intro (fun b=>?_) fun b=>rest (.inl (not_false' b))) fun a=>rest (.inr a)
    rw [likeB,if_pos ⟨a,not_true b⟩]⟩
def wTrue:Spec:=specK [] (none,bT true)
def wLike(fL:Vx→Int→Vx→Int→Int→Bool→Bool):Spec:=specK [.v,.i .i64,.v,.i .i64,.i .i64,.b] fun (v:Vx) (why:Int) (u:Vx) (no:Int) (p:Int) (far:Bool)=>(none,bT (fL v why u no p far))
def wFar(fF:Dx→Bool):Spec:=specK [.d] fun (d:Dx)=>(some (eB 2305843009213693952 d),bT (fF d))
def sEn(fS fC hS hC:Dx→Int→Vx×Int)(fL:Vx→Int→Vx→Int→Int→Bool→Bool)(fF:Dx→Bool):List (FuncId×Spec) :=
  [(6,xDIr fS),(7,xDIr fC),(28,xDIr hS),(29,xDIr hC),(30,wLike fL),(31,wFar fF),(4,wTrue)]
theorem lEnc_vc(t:Dx)(p:Int)(fS fC hS hC:Dx→Int→Vx×Int)(fL:Vx→Int→Vx→Int→Int→Bool→Bool)(fF:Dx→Bool)(Q:Tv→Prop):execF ⟨tys4,sEn fS fC hS hC fL fF⟩ (fun _=>none) 0 Tryz.f12 [.agg (dyL false t),.one (.int .i64 p)] Q=(br (eqI (hS t p).snd 0) (eB 2305843009213693952 t∧br (fL (fS t p).fst (fS t p).snd (hS t p).fst (hS t p).snd p (fF t)) (br (eqI (hC t p).snd 0) (eB 2305843009213693952 t∧true=true∧Q (bT (fL (fC t p).fst (fC t p).snd (hC t p).fst (hC t p).snd p (fF t)))) (true=true∧Q (bT (fL (fC t p).fst (fC t p).snd (hC t p).fst (hC t p).snd p false)))) (true=true∧Q (bT false))) (br (fL (fS t p).fst (fS t p).snd (hS t p).fst (hS t p).snd p false) (br (eqI (hC t p).snd 0) (eB 2305843009213693952 t∧true=true∧Q (bT (fL (fC t p).fst (fC t p).snd (hC t p).fst (hC t p).snd p (fF t)))) (true=true∧Q (bT (fL (fC t p).fst (fC t p).snd (hC t p).fst (hC t p).snd p false)))) (true=true∧Q (bT false)))):=by kernel_rfl
def sLv(fS fC:Dx→Int→Vx×Int)(hI:Dx→Int→Vx)(fI:Int→Dx)(fSm:Vx→Vx→Bool)(fN:Vx→Int→Bool)(fH:Vx→Dx→Bool)(fM:Vx→Vx→Bool)(pr:Dx→Int→Prop):List (FuncId×Spec) :=
  [(6,xDIr fS),(7,xDIr fC),(18,specK [.d,.i .i64] fun (t:Dx) (p:Int)=>(some (pr t p),vF (hI t p))),(13,specK [.i .i64] fun (n:Int)=>(some (inR n),dT (fI n))),(14,xVVb fSm),(16,xVIb fN),(15,specK [.v,.d] fun (v:Vx) (d:Dx)=>(none,bT (fH v d))),(17,xVVb fM)]
theorem lLive_vc(fS fC:Dx→Int→Vx×Int)(hI:Dx→Int→Vx)(fI:Int→Dx)(fSm:Vx→Vx→Bool)(fN:Vx→Int→Bool)(fH:Vx→Dx→Bool)(fM:Vx→Vx→Bool)(pr:Dx→Int→Prop)(Q:Tv→Prop):execF ⟨tys4,sLv fS fC hI fI fSm fN fH fM pr⟩ (fun _=>none) 0 Tryz.f4 [] Q=(inR 1∧inR 2∧br (eqI (fS (Dx.mk false [] 0) 64).snd 0) (br (fSm (fS (Dx.mk false [] 0) 64).fst (Vx.mk (Dx.mk false [] 0) (Dx.mk false [] 0))) (br (eqI (fC (Dx.mk false [] 0) 64).snd 0) (inR 1∧br (fH (fC (Dx.mk false [] 0) 64).fst (fI 1)) (br (eqI (fS (fI 1) 64).snd 0) (br (fN (fS (fI 1) 64).fst 64) (inR 1∧pr (fI 1) 40∧br (fM (fS (fI 1) 64).fst (hI (fI 1) 40)) (true=true∧Q (bT (eqI (fS (fI 2) 64).snd 5))) (true=true∧Q (bT false))) (true=true∧Q (bT false))) (true=true∧Q (bT false))) (true=true∧Q (bT false))) (true=true∧Q (bT false))) (true=true∧Q (bT false))) (true=true∧Q (bT false))):=by kernel_rfl
theorem sameD_refl(d:Dx):sameD d d=true:=by simp [sameD,eqI]
theorem sameV_refl(v:Vx):sameV v v=true:=by rw [sameV,sameD_refl,sameD_refl];rfl
theorem sameD_eq{a b:Dx}(h:sameD a b=true):a=b:=by
  simp [sameD,eqI] at h
  obtain ⟨n,x,e⟩:=a
  obtain ⟨n',x',e'⟩:=b
  simp_all
theorem sameV_eq{a b:Vx}(h:sameV a b=true):a.lo=b.lo∧a.hi=b.hi:=by
  rw [sameV,Bool.and_eq_true] at h
  exact ⟨sameD_eq h.1,sameD_eq h.2⟩
theorem amt_same{a b:Dx}(ha:0≤a.m)(hb:0≤b.m)(h:a.rv=b.rv):(a.m:Rat)*p2 a.e=(b.m:Rat)*p2 b.e:=by
  have x:=rv_amt ha
  have y:=rv_amt hb
  rcases Rat.le_total (a:=0) (b:=a.rv) with k | k
  · rw [←x.1 k,←y.1 (h ▸ k),h]
  · rw [←x.2 k,←y.2 (h ▸ k),h]
theorem near_zero{t:Dx}(ht:0≤t.m)(h:farD t=false)(h0:t.rv≠0):p2 (-16384)≤((oneD t).m:Rat)*p2 (oneD t).e∧p2 (-16384)≤(t.m:Rat)*p2 t.e:=by
  have hm:0<t.m:=by have:=rv_ne h0;omega
  have hz:t.zeroB=false:=zeroB_false.2 (by omega)
  rw [farD,hz] at h
  have k:=ltI_false.1 (show ltI (t.e+(blen t.m:Int)-1) (-16384)=false from h)
  have r:=Rat.le_trans (p2_le (show (-16384:Int)≤t.e+(blen t.m:Int)-1 by omega)) (amt_ge (e:=t.e) hm)
  rw [amt_same oneD_p ht (rv_one ht)]
  exact ⟨r,r⟩
structure Ans (s:Nat→Rat) (v:Vx):Prop where
  p:v.P
  right:rightV v=true
  enc:Enc s v.lo.rv v.hi.rv
theorem zero_rv:(⟨false,[],0⟩:Dx).rv=0:=rv_zero rfl
theorem cutD_zero(p:Int)(up:Bool)(hp:0≤p):cutD ⟨false,[],0⟩ p up=⟨false,[],0⟩:=by
  have o:oneD ⟨false,[],0⟩=⟨false,[],0⟩:=(oneD_f (Int.le_refl _)).zero (zeroB_true.1 ((zeroB_rv oneD_p).2 ((rv_one (Int.le_refl _)).trans zero_rv)))
  unfold cutD cutX
  rw [o,if_pos (by
    have:(blen (⟨false,[],0⟩:Dx).m:Int)=0:=by rw [show (⟨false,[],0⟩:Dx).m=0 from rfl];rfl
    omega)]
theorem trim_zero(p:Int)(hp:0≤p):trimV zeroIv p=zeroIv:=by
  show (⟨cutD ⟨false,[],0⟩ p false,cutD ⟨false,[],0⟩ p true⟩:Vx)=zeroIv
  rw [cutD_zero _ _ hp,cutD_zero _ _ hp];rfl
theorem zero_right:rightV zeroIv=true:=by rw [right_K];decide
theorem ans_cut{w:Vx}{s:Nat→Rat}{δ:Rat}{A B p:Int}(hw:w.P)(E:Enc s w.lo.rv w.hi.rv)(h:VM δ (p2 A) (p2 B) w)(d0:0≤δ)(hd:δ≤p2 (-6-p))(p0:0≤p)(p1:p≤8000)(hA:-20000≤A)(hB:B≤100) :
    cutR w p=(trimV w (p+8),0)∧Ans s (trimV w (p+8))∧VM (p2 (-4-p)) (p2 (A-1)) (p2 (B+1)) (trimV w (p+8)):=by
  have c:=cut_vm hw h d0 hd p0
  have r:=cut_right hw c (by omega) (by omega) (by omega) (by omega)
  exact ⟨by rw [cutR,if_pos r],⟨trimV_p w _,r,enc_trim hw (by omega) E⟩,c⟩
theorem like_ok{s:Nat→Rat}{v u:Vx}{p:Int}{L H δ L' H':Rat}(hv:Ans s v)(hu:Ans s u)(vm:VM (p2 (-4-p)) L H v)(um:VM δ L' H' u)(p0:0≤p):likeB v 0 u 0 p false=true:=by
  have n0:∀ {w:Vx} {δ L H:Rat},VM δ L H w→w.lo.rv≠0:=fun {w δ L H} h e=>by
    rcases h with h | h
    · have:=h.nar.1;grind
    · have a:=h.nar.1;have b:=h.nar.2.1;grind
  have g:goodB v u p=true:=by
    have z:¬ sameV u zeroIv=true:=fun k=>by
      have:=n0 um
      rw [(sameV_eq k).1] at this
      exact this zero_rv
    rw [goodB,if_neg z,narrow_of hv.p hv.right p0 vm (p2_le (by omega)),show neI v.lo.sgn 0=true from neI_true.2 (fun k=>n0 vm (by
      rcases sgn_rv hv.p.1 with ⟨_,b⟩|⟨a,_⟩|⟨a,_⟩
      · exact b
      · omega
      · omega)),meets_of hv.right hu.right hv.enc hu.enc]
    rfl
  rw [likeB,if_neg (fun k=>absurd k.1 (by decide)),if_neg (fun k=>absurd k.2 (by decide)),if_neg (by decide),g]
  rfl
theorem sin_zero{t:Dx}{p:Int}(ht:0≤t.m)(hf:faultD t p=0)(h0:t.rv=0):sinR t p=(zeroIv,0)∧sinH t p=(zeroIv,0):=by
  have a:sineV (oneD t) p=zeroIv:=by rw [sineV,if_pos ((sine_zero oneD_p).2 ((rv_one ht).trans h0))]
  have b:sineH t p=zeroIv:=by rw [sineH,if_pos ((sine_zero ht).2 h0)]
  rw [sinR,sinH,if_pos hf,if_pos hf,a,b,cutR,trim_zero _ (by have:=fault0 ht hf;omega),if_pos zero_right]
  exact ⟨rfl,rfl⟩
theorem sin_ok{t:Dx}{p:Int}(ht:0≤t.m)(hf:faultD t p=0)(hn:farD t=false)(h0:t.rv≠0) :
    (sinR t p).2=0∧Ans (sinS t.rv) (sinR t p).1∧VM (p2 (-4-p)) (p2 (-16389)) (p2 5) (sinR t p).1:=by
  obtain ⟨f1,f2,f3,f4⟩:=fault0 ht hf
  have V:=sineV_iv (t:=oneD t) (p:=p) oneD_p (small_one ht f4) (by rw [rv_one ht];exact h0) (near_zero ht hn h0).1 (by omega) (by omega)
  rw [rv_one ht] at V
  have c:=ans_cut (p:=p) V.1 V.2.1 V.2.2 (rlL (p2_pos _)) (p2_le (by omega)) (by omega) (by omega) (by omega) (by omega)
  rw [sinR,if_pos hf,c.1]
  exact ⟨rfl,c.2.1,c.2.2⟩
theorem sinH_ok{t:Dx}{p:Int}(ht:0≤t.m)(h1:small1 t)(p0:0≤p)(p1:p≤8000)(hn:farD t=false)(h0:t.rv≠0) :
    Ans (sinS t.rv) (sineH t p)∧VM (p2 (-21-p)) (p2 (-16387)) (p2 4) (sineH t p):=by
  have V:=sineH_iv (p:=p) ht h1 h0 (near_zero ht hn h0).2 (by omega) (by omega)
  refine ⟨⟨V.1,?_,V.2.1⟩,V.2.2⟩
  have z:¬ t.zeroB=true:=fun k=>h0 ((sine_zero ht).1 k)
  have V3:=V.2.2
  rw [sineH,if_neg z] at V3 ⊢
  exact cut_right (w:=prodV (pointV t) (altR 2 t (p+48))) (prodV_p _ _) V3 (by omega) (by omega) (by omega) (by omega)
theorem cos_ok{t:Dx}{p:Int}(ht:0≤t.m)(hf:faultD t p=0) :
    (cosR t p).2=0∧Ans (cosS t.rv) (cosR t p).1∧VM (p2 (-4-p)) (p2 (-3)) (p2 3) (cosR t p).1:=by
  obtain ⟨f1,f2,f3,f4⟩:=fault0 ht hf
  have V:=cosineV_iv (t:=oneD t) (p:=p) oneD_p (small_one ht f4) (by omega) (by omega)
  rw [rv_one ht] at V
  have c:=ans_cut (p:=p) V.1 V.2.1 (.inl V.2.2) (rlL (p2_pos _)) (p2_le (by omega)) (by omega) (by omega) (by omega) (by omega)
  rw [cosR,if_pos hf,c.1]
  exact ⟨rfl,c.2.1,c.2.2⟩
theorem cosH_ok{t:Dx}{p:Int}(ht:0≤t.m)(h1:small1 t)(p0:0≤p)(p1:p≤8000) :
    Ans (cosS t.rv) (cosineH t p)∧VM (p2 (-24-p)) (p2 (-2)) (p2 2) (cosineH t p):=by
  have V:=cosineH_iv (p:=p) ht h1 p0 (by omega)
  have f:=V.1.fits (by omega) (by omega)
  exact ⟨⟨V.1.p,right_of f.1 f.2 V.2.1.self,V.2.1⟩,.inl V.2.2⟩
theorem sin_like(t:Dx)(ht:0≤t.m)(p:Int):likeB (sinR t p).1 (sinR t p).2 (sinH t p).1 (sinH t p).2 p (if (sinH t p).2=0 then farD t else false)=true:=by
  by_cases hf:faultD t p=0
  · by_cases h0:t.rv=0
    · obtain ⟨a,b⟩:=sin_zero (p:=p) ht hf h0
      have z:farD t=false:=by rw [farD,(zeroB_rv ht).2 h0];rfl
      rw [a,b,z,if_pos rfl,likeB,if_neg (fun k=>absurd k.1 (by decide)),if_neg (fun k=>absurd k.2 (by decide)),if_neg (by decide),goodB,if_pos (sameV_refl _)]
      decide
    · have hs:(sinH t p).2=0:=by rw [sinH,if_pos hf]
      have hs1:(sinH t p).1=sineH t p:=by rw [sinH,if_pos hf]
      rw [if_pos hs,hs,hs1]
      obtain ⟨f1,f2,f3,f4⟩:=fault0 ht hf
      cases hn:farD t with
      | false =>
        have a:=sin_ok ht hf hn h0
        have b:=sinH_ok (p:=p) ht f4 (by omega) (by omega) hn h0
        rw [a.1]
        exact like_ok a.2.1 b.1 a.2.2 b.2 (by omega)
      | true =>
        have e:sinR t p=cutR (sineV (oneD t) p) p:=by rw [sinR,if_pos hf]
        rw [e]
        unfold cutR
        split
        · rw [likeB,if_neg (fun k=>absurd k.1 (by rw [show neI _ 0=false from neI_false.2 rfl];simp)),if_pos ⟨by decide,rfl⟩];rfl
        · rw [likeB,if_neg (fun k=>absurd k.2 (by rw [sameV_refl];simp)),if_pos ⟨by decide,rfl⟩];rfl
  · have e:sinR t p=(zeroIv,faultD t p):=by rw [sinR,if_neg hf]
    have e':sinH t p=(zeroIv,faultD t p):=by rw [sinH,if_neg hf]
    rw [e,e']
    show likeB zeroIv (faultD t p) zeroIv (faultD t p) p (if faultD t p=0 then farD t else false)=true
    rw [if_neg hf,likeB,if_neg (fun k=>absurd k.2 (by rw [sameV_refl];simp)),if_neg (fun k=>absurd k.2 (by decide)),if_pos (neI_true.2 hf)]
    exact eqI_true.2 rfl
theorem cos_like(t:Dx)(ht:0≤t.m)(p:Int):likeB (cosR t p).1 (cosR t p).2 (cosH t p).1 (cosH t p).2 p (if (cosH t p).2=0 then farD t else false)=true:=by
  by_cases hf:faultD t p=0
  · have hs:(cosH t p).2=0:=by rw [cosH,if_pos hf]
    have hs1:(cosH t p).1=cosineH t p:=by rw [cosH,if_pos hf]
    rw [if_pos hs,hs,hs1]
    obtain ⟨f1,f2,f3,f4⟩:=fault0 ht hf
    have a:=cos_ok (p:=p) ht hf
    have b:=cosH_ok (p:=p) ht f4 (by omega) (by omega)
    rw [a.1]
    cases hn:farD t with
    | false=>exact like_ok a.2.1 b.1 a.2.2 b.2 (by omega)
    | true=>rw [likeB,if_neg (fun k=>absurd k.1 (by decide)),if_pos ⟨by decide,rfl⟩];rfl
  · have e:cosR t p=(zeroIv,faultD t p):=by rw [cosR,if_neg hf]
    have e':cosH t p=(zeroIv,faultD t p):=by rw [cosH,if_neg hf]
    rw [e,e']
    show likeB zeroIv (faultD t p) zeroIv (faultD t p) p (if faultD t p=0 then farD t else false)=true
    rw [if_neg hf,likeB,if_neg (fun k=>absurd k.2 (by rw [sameV_refl];simp)),if_neg (fun k=>absurd k.2 (by decide)),if_pos (neI_true.2 hf)]
    exact eqI_true.2 rfl
theorem chk_of{d:Dx}(h:d.fitsB=true):chkD d=0:=by rw [chkD,if_pos h]
theorem fault_of{t:Dx}{p:Int}(ht:0≤t.m)(hf:t.fitsB=true)(h:small1 t)(p0:8≤p)(p1:p≤4096):faultD t p=0:=by
  rw [faultD,if_pos ⟨chk_of hf,p0,p1⟩,if_neg]
  intro k
  rw [cmpD_gt0,rv_int 1,rv_abs ht] at k
  have a:=rv_amt ht
  rcases (show 0≤t.rv∨t.rv≤0 by grind) with c | c
  · have:=a.1 c;have:=h.1;grind
  · have:=a.2 c;have:=h.2;grind
theorem small_fits{n:Int}(h:n.natAbs≤16):(mkS n 0).fitsB=true:=fits_mk (N:=5) (by omega) (blen_le (by omega)) (by omega) (by omega) (by omega) (by omega)
theorem int_small{n:Int}(h:-1≤n)(k:n≤1):small1 (mkS n 0):=by
  unfold small1
  rw [rv_int]
  have a:(n:Rat)≤((1:Int):Rat):=by exact_mod_cast k
  have b:((-1:Int):Rat)≤(n:Rat):=by exact_mod_cast h
  exact ⟨by grind,by grind⟩
theorem fault_int{n p:Int}(h:-1≤n)(k:n≤1)(p0:8≤p)(p1:p≤4096):faultD (mkS n 0) p=0:=fault_of mkS_p (small_fits (by omega)) (int_small h k) p0 p1
theorem far_one:farD (mkS 1 0)=false:=by
  rw [farD]
  have r:(mkS 1 0).rv=1:=rv_int 1
  have a:=(rv_amt (d:=mkS 1 0) mkS_p).1 (by rw [r];decide)
  have l:=amt_lt (m:=(mkS 1 0).m) (e:=(mkS 1 0).e)
  rw [←a,r] at l
  have g:¬ ((mkS 1 0).e+(blen (mkS 1 0).m:Int)≤0):=fun k=>by
    have:=p2_le k
    rw [p2_zero] at this
    grind
  rw [show ltI ((mkS 1 0).e+(blen (mkS 1 0).m:Int)-1) (-16384)=false from ltI_false.2 (by omega),Bool.and_false]
theorem zero_fault:faultD ⟨false,[],0⟩ 64=0:=by
  have f:=(right_fits zero_right).1
  refine fault_of (Int.le_refl _) f ?_ (by omega) (by omega)
  unfold small1
  rw [zero_rv]
  exact ⟨by decide,by decide⟩
theorem lives_sin0:sinR ⟨false,[],0⟩ 64=(zeroIv,0):=(sin_zero (Int.le_refl _) zero_fault zero_rv).1
theorem lives_cos0:(cosR ⟨false,[],0⟩ 64).2=0∧hasV (cosR ⟨false,[],0⟩ 64).1 (mkS 1 0)=true:=by
  obtain ⟨a,b,c⟩:=cos_ok (t:=⟨false,[],0⟩) (Int.le_refl _) zero_fault
  refine ⟨a,?_⟩
  have e:=b.enc
  rw [zero_rv] at e
  have h1:=e.meets enc_cos0
  have h2:=enc_cos0.meets e
  have r:(mkS 1 0).rv=1:=rv_int 1
  rw [hasV,b.right,small_fits (by omega),show leI (cmpD _ (mkS 1 0)) 0=true from leI_true.2 (cmpD_le.2 (by rw [r];exact h1)),show leI (cmpD (mkS 1 0) _) 0=true from leI_true.2 (cmpD_le.2 (by rw [r];exact h2))]
  rfl
theorem lives_sin1:(sinR (mkS 1 0) 64).2=0∧narrowB (sinR (mkS 1 0) 64).1 64=true∧meetsV (sinR (mkS 1 0) 64).1 (sineH (mkS 1 0) 40)=true:=by
  have r:(mkS 1 0).rv=1:=rv_int 1
  have a:=sin_ok (p:=64) mkS_p (fault_int (n:=1) (by omega) (by omega) (by omega) (by omega)) far_one (by rw [r];decide)
  have b:=sinH_ok (p:=40) mkS_p (int_small (n:=1) (by omega) (by omega)) (by omega) (by omega) far_one (by rw [r];decide)
  exact ⟨a.1,narrow_of a.2.1.p a.2.1.right (by omega) a.2.2 (p2_le (by omega)),meets_of a.2.1.right b.1.right a.2.1.enc b.1.enc⟩
theorem lives_sin2:(sinR (mkS 2 0) 64).2=5:=by
  have f:faultD (mkS 2 0) 64=5:=by
    rw [faultD,if_pos ⟨chk_of (small_fits (by omega)),by omega,by omega⟩,if_pos (cmpD_gt0.2 (by
      have a:=(rv_amt (d:=mkS 2 0) mkS_p).1 (by rw [rv_int];decide)
      rw [rv_int,rv_abs mkS_p,←a,rv_int];decide))]
  rw [sinR,f];rfl
theorem sLv_ok:SpecsOk Tryz.prog (sLv sinR cosR sineH (fun n=>mkS n 0) sameV narrowB hasV meetsV preS):=⟨rSin_ok,rCos_ok,hSine_ok,fInt_ok,gSame_ok,gNarrow_ok,gHas_ok,gMeets_ok,trivial⟩
theorem lLive_ok:SpecOk Tryz.prog 4 wTrue :=
  specK_ok (envOk tys4_ok sLv_ok) mixed Tryz.func4 rfl (by decide) (by decide) fun _=>⟨fun _=>none,0,by
    show execF _ _ _ _ _ (fun t=>t=bT true)
    refine (lLive_vc sinR cosR sineH (fun n=>mkS n 0) sameV narrowB hasV meetsV preS _).mpr ⟨by unfold inR;omega,by unfold inR;omega,?_⟩
    have z:(⟨⟨false,[],0⟩,⟨false,[],0⟩⟩:Vx)=zeroIv:=rfl
    rw [lives_sin0,z,sameV_refl,lives_cos0.1,lives_cos0.2,lives_sin1.1,lives_sin1.2.1,lives_sin1.2.2,lives_sin2]
    exact ⟨by unfold inR;omega,by unfold inR;omega,fault_pre0 mkS_p (fault_int (by omega) (by omega) (by omega) (by omega)),rfl,rfl⟩⟩
def lEnc:Spec:=specK [.d,.i .i64] fun (_:Dx) (_:Int)=>(none,bT true)
theorem sEn_ok:SpecsOk Tryz.prog (sEn sinR cosR sinH cosH likeB farD):=⟨rSin_ok,rCos_ok,hSin_ok,hCos_ok,lLike_ok,lFar_ok,lLive_ok,trivial⟩
theorem enc_case{h:Vx×Int}{t:Dx}{f:Bool→Bool}{Q:Prop}{E:Prop}(k:f (if h.2=0 then farD t else false)=true)(e:h.2=0→E) :
    (eqI h.2 0=true→E∧f (farD t)=true)∧(eqI h.2 0=false→f false=true):=by
  refine ⟨fun c=>?_,fun c=>?_⟩
  · have c:=eqI_true.1 c
    rw [if_pos c] at k
    exact ⟨e c,k⟩
  · have c:=eqI_false.1 c
    rwa [if_neg c] at k
theorem fault_eB{t:Dx}{p:Int}(ht:0≤t.m)(h:faultD t p=0):eB 2305843009213693952 t:=(fits_sm (fault0 ht h).1).eB (by omega)
theorem lEnc_ok:SpecOk Tryz.prog 12 lEnc :=
  specK_ok (envOk tys4_ok sEn_ok) mixed Tryz.func12 rfl (by decide) (by decide) fun (t:Dx) wt (p:Int) _ _=>⟨fun _=>none,0,by
    have ht:=Dx.Wf.m0 wt
    show execF _ _ _ _ _ (fun t=>t=bT true)
    have s0:(sinH t p).2=0→faultD t p=0:=fun h=>by
      unfold sinH at h;split at h
      · assumption
      · exact h
    have c0:(cosH t p).2=0→faultD t p=0:=fun h=>by
      unfold cosH at h;split at h
      · assumption
      · exact h
    obtain ⟨s1,s2⟩:=enc_case (Q:=True) (f:=fun b=>likeB (sinR t p).1 (sinR t p).2 (sinH t p).1 (sinH t p).2 p b) (sin_like t ht p) (fun h=>fault_eB ht (s0 h))
    obtain ⟨c1,c2⟩:=enc_case (Q:=True) (f:=fun b=>likeB (cosR t p).1 (cosR t p).2 (cosH t p).1 (cosH t p).2 p b) (cos_like t ht p) (fun h=>fault_eB ht (c0 h))
    have fin:br (eqI (cosH t p).2 0) (eB 2305843009213693952 t∧true=true∧bT (likeB (cosR t p).1 (cosR t p).2 (cosH t p).1 (cosH t p).2 p (farD t))=bT true) (true=true∧bT (likeB (cosR t p).1 (cosR t p).2 (cosH t p).1 (cosH t p).2 p false)=bT true) :=
      br_intro (fun h=>⟨(c1 h).1,rfl,congrArg bT (c1 h).2⟩) fun h=>⟨rfl,congrArg bT (c2 h)⟩
    refine (lEnc_vc t p sinR cosR sinH cosH likeB farD _).mpr (br_intro (fun h=>⟨(s1 h).1,br_intro (fun _=>fin) fun k=>?_⟩) fun h=>br_intro (fun _=>fin) fun k=>?_)
    · rw [(s1 h).2] at k;exact absurd k (by simp)
    · rw [(s2 h)] at k;exact absurd k (by simp)⟩
def condQ(x:Dx)(p:Int):Prop:=x.fitsB=true∧8≤p∧p≤3968
instance condQ_dec (x:Dx) (p:Int):Decidable (condQ x p):=inferInstanceAs (Decidable (_∧_∧_))
def turnP(k:Int)(b:Vx×Vx):Vx×Vx:=if k=1 then (b.2,turnV b.1) else if k=2 then (turnV b.1,turnV b.2) else if k=3 then (turnV b.2,b.1) else b
def Ab(x K:Rat):Prop:=-K≤x∧x≤K
def pw(x:Rat):Nat→Rat
  | 0=>1
  | k+1=>x*pw x k
def AbS(a:Nat→Rat)(K:Rat):Prop:=∀ n,Ab (a n) K
section
variable {a b:Nat→Rat} (ha:AbS a 2) (hb:AbS b 2)
include ha hb
end
def EvB(a:Nat→Rat)(K:Rat):Prop:=∃ N,∀ n,N≤n→Ab (a n) K
section
variable {a b:Nat→Rat} (ha:EvB a 2) (hb:EvB b 2)
include ha hb
end
def su(n:Int):Rat:=if n % 4=1 then 1 else if n % 4=3 then -1 else 0
theorem tr0(b:Vx×Vx):turnP 0 b=b:=by rw [turnP,if_neg (by decide),if_neg (by decide),if_neg (by decide)]
def IvJ(n0:Nat)(w:World)(v:Value):Prop:=∃ a s e b t f,v = .agg #[.bool a,s,.int .i64 e,.bool b,t,.int .i64 f]∧JunkAt n0 w s∧JunkAt n0 w t
abbrev Cn(w:World):Base:=⟨w.heap.size,fun _=>False,0⟩
theorem rep_junk{w w':World}{v:Value}{xs:List Int}(h:Rep (Cn w) noBox w' v (.words true xs)):JunkAt w.heap.size w' v:=by
  cases h with
  | words h=>exact h.junk fun g hg=>hg.2 rfl
theorem rep_ivJ{w w':World}{v:Value}{u:Vx}(h:RepS (Cn w) noBox w' v (.agg (ivL true u))):IvJ w.heap.size w' v:=by
  obtain ⟨vs,rfl,hl⟩:=h
  match vs,hl with
  | [a,b,c,d,e,f],⟨h1,h2,h3,h4,h5,h6,_⟩ =>
    obtain rfl:=rep_bool h1
    obtain rfl:=rep_int h3
    obtain rfl:=rep_bool h4
    obtain rfl:=rep_int h6
    exact ⟨_,_,_,_,_,_,rfl,rep_junk h2,rep_junk h5⟩
def reTn(r:Vx×Int):Tv:=.tup [.agg (ivL true r.1),.one (.int .i64 r.2)]
def reT2n(r:(Vx×Vx)×Int):Tv:=.tup [.agg (ivL true r.1.1),.agg (ivL true r.1.2),.one (.int .i64 r.2)]
noncomputable def sndC:Code→Code
  | .seq _ y=>y
  | c=>c
noncomputable def bodyC (fn:Func):Code:=match fn.body with
  | some c=>c
  | none=>.skip
def ownSt(x:Dx)(p:Int):Sg:=⟨[(1,iT p),(2,.sv (.one (.ref (dyL false x)))),(5,.sv (.one (.ref (dyL false x))))],[],0⟩
theorem exec_tail{P:Program}{E:Env}(hE:EnvOk P E)(hm:P.follows .mixedOrders=true){fn:Func}{c:Code}{s:Sg}{Q:Tv→Prop}(h:exec E fn.ntmps 0 c (fun _=>none) s (finish E fn.results.toList Q))
    {C:Base} {w0 w:World} {a:Act} {A:Nat→Option Nat} (hT:TabB C w0) (hc:Cfg s.get (fun b=>b<s.nb) C fn.ntmps w0 a w A) :
    c.wp P (bodyPost P fn fun e w'=>∃ v t,e = .returned v∧Q t∧RepT C noBox w' v t∧Below C.n w0 w') a w:=by
  refine exec_ok hE hT hm c h hc ?_
  intro e s' a' w' A' hk hc'
  have fin:(resL E.T fn.results.toList fun l=>valT (toTv l)).go s'.get [] (fun e _=>andP e.pre (Q e.dst))→a'.defers = []∧∃ v,(results fn a'.tmps).run P w' = .ok v w'∧∃ v' t,Ending.returned v = .returned v'∧Q t∧RepT C noBox w' v' t∧Below C.n w0 w':=fun hk=>by
    rw [RM.go_eq] at hk
    have hok:((resL E.T fn.results.toList fun l=>valT (toTv l)).ev s'.get).ok∧Q ((resL E.T fn.results.toList fun l=>valT (toTv l)).ev s'.get).dst:=by
      unfold Eff.ok
      cases hp:((resL E.T fn.results.toList fun l=>valT (toTv l)).ev s'.get).pre with
      | none=>rw [hp] at hk;exact ⟨trivial,hk⟩
      | some p=>rw [hp] at hk;exact hk
    obtain ⟨v,h1,h2⟩:=finish_ok hE hc' (fn:=fn) rfl hok.1
    exact ⟨hc'.defers,v,h1,v,_,rfl,hok.2,h2,hc'.below⟩
  cases e with
  | norm=>exact fin hk
  | ret=>exact fin hk
  | exit i=>exact hk.elim
theorem JunkAt.mono{m n0:Nat}{w:World}{v:Value}(h:JunkAt n0 w v)(k:m≤n0):JunkAt m w v:=by
  obtain ⟨A,n,c,e,h1,h2,h3,h4⟩:=h
  exact ⟨A,n,c,e,h1,h2,h3,fun hp=>by obtain ⟨g,o,e,hg,r⟩:=h4 hp;exact ⟨g,o,e,Nat.le_trans k hg,r⟩⟩
def Box6(w:World)(g:Nat)(a:Bool)(s:Value)(e:Int)(b:Bool)(t:Value)(f:Int):Prop :=
  w.cell? ⟨g,0,none⟩=some (.bool a)∧w.cell? ⟨g,1,none⟩=some s∧w.cell? ⟨g,2,none⟩=some (.int .i64 e)∧w.cell? ⟨g,3,none⟩=some (.bool b)∧w.cell? ⟨g,4,none⟩=some t∧w.cell? ⟨g,5,none⟩=some (.int .i64 f)
theorem Box6.below{w w':World}{g:Nat}{a b:Bool}{s t:Value}{e f:Int}(h:Box6 w g a s e b t f)(hb:Below w.heap.size w w'):Box6 w' g a s e b t f:=by
  have hl:=World.block_lt_of_cell? w _ h.1
  have q:=(bcell hb).1
  obtain ⟨h1,h2,h3,h4,h5,h6⟩:=h
  exact ⟨(q _ _ hl).trans h1,(q _ _ hl).trans h2,(q _ _ hl).trans h3,(q _ _ hl).trans h4,(q _ _ hl).trans h5,(q _ _ hl).trans h6⟩
theorem Box6.new(w:World)(a b:Bool)(s t:Value)(e f:Int)(ty:TypeId):Box6 (w.alloc (.cells #[.bool a,s,.int .i64 e,.bool b,t,.int .i64 f] ty)) w.heap.size a s e b t f:=by
  refine ⟨?_,?_,?_,?_,?_,?_⟩<;>go_simp
set_option maxHeartbeats 1600000 in
theorem spoil13_calls{n0:Nat}{w:World}{v:Value}(h:JunkAt n0 w v):Calls Tryz.prog 9 #[v] w (fun e w'=>e = .returned (.tuple #[])∧Jk n0 w w'):=by
  obtain ⟨A,n,c,rfl,h1,h2,h3,h4⟩:=h
  have H4:=Lib.hid h4
  clear h4
  go_enter Tryz.func9,Tryz.ntmps9
  go_wp2
  go_loopw [5] (fun i wr=>∃ (k:Nat),k≤n∧i = .int .i64 k∧Jk n0 w wr) (fun i _=>n-(intOf i).toNat)
  case atStart=>exact ⟨0,by omega,rfl,Jk.refl _ _⟩
  case round =>
    obtain ⟨k,hk,rfl,hj⟩:=hrel
    have HJ:=Lib.hid hj
    clear hj
    by_cases hlt:k<n
    · obtain ⟨g,o,rfl,hg,hl,hc⟩:=H4.out (by omega)
      obtain ⟨⟨y0,hy0⟩,hf0⟩:=hc k hlt
      have hf:wr.frozen? ⟨g,o+k,none⟩=false:=(HJ.out.frz g (o+k) hl).trans hf0
      obtain ⟨y,hy⟩:∃ y,wr.cell? ⟨g,o+k,none⟩=some (.int .u64 y):=by
        rcases HJ.out.keep g (o+k) _ hy0 with e | ⟨_,y',e⟩
        · exact ⟨y0,e⟩
        · exact ⟨y',e⟩
      have hs:Jk n0 w (wr.setCell ⟨g,o+k,none⟩ (.int .u64 77)):=HJ.out.trans (Jk.set hg hy)
      have HS:=Lib.hid hs
      clear hs hc hy0 hf0
      have hdec:decide ((k:Int)<(n:Int))=true:=by simp;omega
      go_wp2
      go_roundw
      case rel=>exact ⟨k+1,by omega,by go_num,HS.out⟩
      case measure=>simp [intOf];omega
    · have hdec:decide ((k:Int)<(n:Int))=false:=by simp;omega
      go_wp2
      exact bodyPost_end (results_none rfl _ _ _) rfl ⟨rfl,HJ.out⟩
def rCutN:Spec:=specK [.v,.i .i64] fun (v:Vx) (p:Int)=>(some (v.Sm 34359738368∧0≤p∧p≤1073741824),reTn (cutR v p))
theorem rCutN_ok:SpecOk Tryz.prog 20 rCutN :=
  specK_ok (envOk tys4_ok sSin_ok) mixed Tryz.func20 rfl (by decide) (by decide) fun (v:Vx) _ (p:Int) _ hp=>⟨fun _=>none,0,by
    obtain ⟨sv,p0,p1⟩:v.Sm 34359738368∧0≤p∧p≤1073741824:=hp
    show execF _ _ _ _ _ (fun t=>t=reTn (cutR v p))
    refine (rCutV_vc v p _).mpr ⟨⟨by omega,by omega⟩,⟨sv,by omega,by omega⟩,br_intro (fun h=>?_) fun h=>?_⟩
    · rw [cutR,if_neg (by rw [not_true h];simp)];rfl
    · rw [cutR,if_pos (not_false' h)];rfl⟩
def sSin3n:List (FuncId×Spec):=[(22,rOne),(21,rSine),(23,rCosine),(20,rCutN),(19,rFault),(25,rRise),(27,rCss),(24,vCk)]
theorem sSin3n_ok:SpecsOk Tryz.prog sSin3n:=⟨rOne_ok,rSine_ok,rCosine_ok,rCutN_ok,rFault_ok,rRise_ok,rCss_ok,vCk_ok,trivial⟩
theorem rSinN_vc(t:Dx)(p:Int)(Q:Tv→Prop):execF ⟨tys4,sSin3n⟩ (fun _=>none) 0 Tryz.f6 [.agg (dyL false t),.one (.int .i64 p)] Q=(br (neI (faultD t p) 0) (Q (Tv.tup [Sv.agg [At.bool false,At.words true [],At.int .i64 0,At.bool false,At.words true [],At.int .i64 0],Sv.one (At.int .i64 (faultD t p))])) (((-4611686018427387904:Int)≤t.e∧t.e≤4611686018427387904)∧(Dx.Sm 131072 (oneD t)∧small1 (oneD t)∧(0:Int)≤p∧p≤60000)∧(Vx.Sm 34359738368 (sineV (oneD t) p)∧(0:Int)≤p∧p≤1073741824)∧Q (Tv.tup [Sv.agg (ivL true (cutR (sineV (oneD t) p) p).fst),Sv.one (At.int .i64 (cutR (sineV (oneD t) p) p).snd)]))):=by kernel_rfl
theorem rCosN_vc(t:Dx)(p:Int)(Q:Tv→Prop):execF ⟨tys4,sSin3n⟩ (fun _=>none) 0 Tryz.f7 [.agg (dyL false t),.one (.int .i64 p)] Q=(br (neI (faultD t p) 0) (Q (Tv.tup [Sv.agg [At.bool false,At.words true [],At.int .i64 0,At.bool false,At.words true [],At.int .i64 0],Sv.one (At.int .i64 (faultD t p))])) (((-4611686018427387904:Int)≤t.e∧t.e≤4611686018427387904)∧(Dx.Sm 131072 (oneD t)∧small1 (oneD t)∧(0:Int)≤p∧p≤60000)∧(Vx.Sm 34359738368 (cosineV (oneD t) p)∧(0:Int)≤p∧p≤1073741824)∧Q (Tv.tup [Sv.agg (ivL true (cutR (cosineV (oneD t) p) p).fst),Sv.one (At.int .i64 (cutR (cosineV (oneD t) p) p).snd)]))):=by kernel_rfl
theorem rBothN_vc(v:Vx)(p:Int)(Q:Tv→Prop):execF ⟨tyDs :: tys4,sSin3n⟩ (fun _=>none) 3 Tryz.f8 [.agg (ivL false v),.one (.int .i64 p)] Q=(br (neI (checkR v) 0) (Q (Tv.tup [Sv.agg [At.bool false,At.words true [],At.int .i64 0,At.bool false,At.words true [],At.int .i64 0],Sv.agg [At.bool false,At.words true [],At.int .i64 0,At.bool false,At.words true [],At.int .i64 0],Sv.one (At.int .i64 2)])) (((0:Int)≤0∧(0:Int)<(↑(2:Nat):Int))∧br (neI (faultD v.lo p) 0) (Q (Tv.tup [Sv.agg [At.bool false,At.words true [],At.int .i64 0,At.bool false,At.words true [],At.int .i64 0],Sv.agg [At.bool false,At.words true [],At.int .i64 0,At.bool false,At.words true [],At.int .i64 0],Sv.one (At.int .i64 (faultD v.lo p))])) (inR ((0:Int)+1)∧((0:Int)≤0+1∧(0:Int)+1<(↑(2:Nat):Int))∧br (neI (faultD v.hi p) 0) (Q (Tv.tup [Sv.agg [At.bool false,At.words true [],At.int .i64 0,At.bool false,At.words true [],At.int .i64 0],Sv.agg [At.bool false,At.words true [],At.int .i64 0,At.bool false,At.words true [],At.int .i64 0],Sv.one (At.int .i64 (faultD v.hi p))])) (inR ((0:Int)+1+1)∧((-4611686018427387904:Int)≤v.lo.e∧v.lo.e≤4611686018427387904)∧((-4611686018427387904:Int)≤v.hi.e∧v.hi.e≤4611686018427387904)∧true=true∧((26:Nat)=(26:FuncId)∧preS (oneD v.lo) p∧preS (oneD v.hi) p)∧(Vx.Sm 34359738368 (sinesV (Vx.mk (oneD v.lo) (oneD v.hi)) p)∧(0:Int)≤p∧p≤1073741824)∧true=true∧(preS (oneD v.lo) p∧preS (oneD v.hi) p)∧(Vx.Sm 34359738368 (cosinesV (Vx.mk (oneD v.lo) (oneD v.hi)) p)∧(0:Int)≤p∧p≤1073741824)∧true=true∧br (neI (cutR (sinesV (Vx.mk (oneD v.lo) (oneD v.hi)) p) p).snd 0) (Q (Tv.tup [Sv.agg [At.bool false,At.words true [],At.int .i64 0,At.bool false,At.words true [],At.int .i64 0],Sv.agg [At.bool false,At.words true [],At.int .i64 0,At.bool false,At.words true [],At.int .i64 0],Sv.one (At.int .i64 3)])) (br (neI (cutR (cosinesV (Vx.mk (oneD v.lo) (oneD v.hi)) p) p).snd 0) (Q (Tv.tup [Sv.agg [At.bool false,At.words true [],At.int .i64 0,At.bool false,At.words true [],At.int .i64 0],Sv.agg [At.bool false,At.words true [],At.int .i64 0,At.bool false,At.words true [],At.int .i64 0],Sv.one (At.int .i64 3)])) (true=true∧Q (Tv.tup [Sv.agg (ivL true (cutR (sinesV (Vx.mk (oneD v.lo) (oneD v.hi)) p) p).fst),Sv.agg (ivL true (cutR (cosinesV (Vx.mk (oneD v.lo) (oneD v.hi)) p) p).fst),Sv.one (At.int .i64 0)]))))))):=by kernel_rfl
def rSinN:Spec:=specK [.d,.i .i64] fun (t:Dx) (p:Int)=>(none,reTn (sinR t p))
theorem rSinN_ok:SpecOk Tryz.prog 6 rSinN :=
  specK_ok (envOk tys4_ok sSin3n_ok) mixed Tryz.func6 rfl (by decide) (by decide) fun (t:Dx) ht (p:Int) _ _=>⟨fun _=>none,0,by
    have m0:=Dx.Wf.m0 ht
    show execF _ _ _ _ _ (fun t'=>t'=reTn (sinR t p))
    refine (rSinN_vc t p _).mpr (br_intro (fun h=>?_) fun h=>?_)
    · rw [sinR,if_neg (neI_true.1 h)];rfl
    · have h:=neI_false.1 h
      have pr:=fault_pre m0 h
      have st:=fits_sm (fault0 m0 h).1
      have pp:=(fault0 m0 h).2
      exact ⟨st.eB (by omega),pr,⟨(sineV_sm oneD_p pr).mono (by omega),by omega,by omega⟩,by rw [sinR,if_pos h];rfl⟩⟩
def rCosN:Spec:=specK [.d,.i .i64] fun (t:Dx) (p:Int)=>(none,reTn (cosR t p))
theorem rCosN_ok:SpecOk Tryz.prog 7 rCosN :=
  specK_ok (envOk tys4_ok sSin3n_ok) mixed Tryz.func7 rfl (by decide) (by decide) fun (t:Dx) ht (p:Int) _ _=>⟨fun _=>none,0,by
    have m0:=Dx.Wf.m0 ht
    show execF _ _ _ _ _ (fun t'=>t'=reTn (cosR t p))
    refine (rCosN_vc t p _).mpr (br_intro (fun h=>?_) fun h=>?_)
    · rw [cosR,if_neg (neI_true.1 h)];rfl
    · have h:=neI_false.1 h
      have pr:=fault_pre m0 h
      have st:=fits_sm (fault0 m0 h).1
      have pp:=(fault0 m0 h).2
      exact ⟨st.eB (by omega),pr,⟨(cosineV_sm oneD_p pr).mono (by omega),by omega,by omega⟩,by rw [cosR,if_pos h];rfl⟩⟩
def rBothN:Spec:=specK [.v,.i .i64] fun (v:Vx) (p:Int)=>(none,reT2n (bothR v p))
theorem rBothN_ok:SpecOk Tryz.prog 8 rBothN :=
  specK_ok (envOk (T:=tyDs :: tys4) ⟨by kernel_rfl,tys4_ok⟩ sSin3n_ok) mixed Tryz.func8 rfl (by decide) (by decide) fun (v:Vx) hv (p:Int) _ _=>⟨fun _=>none,3,by
    have hv:=Vx.Wf.p hv
    show execF _ _ _ _ _ (fun t'=>t'=reT2n (bothR v p))
    refine (rBothN_vc v p _).mpr (br_intro (fun h=>?_) fun h=>⟨⟨by omega,by omega⟩,br_intro (fun h1=>?_) fun h1=>⟨⟨by omega,by omega⟩,⟨by omega,by omega⟩,br_intro (fun h2=>?_) fun h2=>?_⟩⟩)
    · rw [bothR,if_neg (neI_true.1 h)];rfl
    · rw [bothR,if_pos (neI_false.1 h),if_neg (neI_true.1 h1)];rfl
    · rw [bothR,if_pos (neI_false.1 h),if_pos (neI_false.1 h1),if_neg (neI_true.1 h2)];rfl
    · have h1:=neI_false.1 h1
      have h2:=neI_false.1 h2
      have p1:=fault_pre hv.1 h1
      have p2:=fault_pre hv.2 h2
      have s1:=fits_sm (fault0 hv.1 h1).1
      have s2:=fits_sm (fault0 hv.2 h2).1
      have pp:=(fault0 hv.1 h1).2
      have z1:(sinesV (onesV v) p).Sm 67108864:=⟨(sineV_sm oneD_p p1).1,(sineV_sm oneD_p p2).2⟩
      have z2:=cosinesV_sm (v:=onesV v) ⟨oneD_p,oneD_p⟩ p1 p2
      have goal:bothR v p=both2 (cutR (sinesV (onesV v) p) p) (cutR (cosinesV (onesV v) p) p):=by rw [bothR,if_pos (neI_false.1 h),if_pos h1,if_pos h2]
      rw [goal]
      refine ⟨⟨by omega,by omega⟩,s1.eB (by omega),s2.eB (by omega),rfl,⟨rfl,p1,p2⟩,⟨z1.mono (by omega),by omega,by omega⟩,rfl,⟨p1,p2⟩,⟨z2.mono (by omega),by omega,by omega⟩,rfl,br_intro (fun h3=>?_) fun h3=>br_intro (fun h4=>?_) fun h4=>⟨rfl,?_⟩⟩
      · rw [both2,if_neg (fun k=>neI_true.1 h3 k.1)];rfl
      · rw [both2,if_neg (fun k=>neI_true.1 h4 k.2)];rfl
      · rw [both2,if_pos ⟨neI_false.1 h3,neI_false.1 h4⟩];rfl⟩
theorem sin13_junk{w:World}{s:Value}{d:Dx}(p:Int)(hT:Tab w)(h:NatAt 0 w s d.xs) :
    Calls Tryz.prog 6 #[.agg #[.bool d.neg,s,.int .i64 d.e],.int .i64 p] w fun e w'=>∃ a k,e = .returned (.tuple #[a,.int .i64 k])∧IvJ w.heap.size w' a∧Below w.heap.size w w':=by
  have hr:RepSs (Cn w) noBox w [.agg #[.bool d.neg,s,.int .i64 d.e],.int .i64 p] [.agg (dyL false d),.one (.int .i64 p)] :=
    ⟨⟨[.bool d.neg,s,.int .i64 d.e],rfl,Rep.bool _,.words (h.isIn.mono fun g _ _=>⟨⟨by simp,fun h=>h.elim⟩,by simp⟩),Rep.int _ _,trivial⟩,Rep.int _ _,trivial⟩
  refine (rSinN_ok.run (Cn w) w _ _ rfl (fun g h=>h.elim) hT hr trivial).mono ?_
  rintro e w' ⟨v,rfl,hv,hb⟩
  obtain ⟨vs,rfl,hl⟩:=hv
  match vs,hl with
  | [a,k],⟨h1,h3,_⟩ =>
    obtain rfl:=repS_int h3
    exact ⟨a,_,rfl,rep_ivJ h1,hb⟩
theorem cos13_junk{w:World}{s:Value}{d:Dx}(p:Int)(hT:Tab w)(h:NatAt 0 w s d.xs) :
    Calls Tryz.prog 7 #[.agg #[.bool d.neg,s,.int .i64 d.e],.int .i64 p] w fun e w'=>∃ a k,e = .returned (.tuple #[a,.int .i64 k])∧IvJ w.heap.size w' a∧Below w.heap.size w w':=by
  have hr:RepSs (Cn w) noBox w [.agg #[.bool d.neg,s,.int .i64 d.e],.int .i64 p] [.agg (dyL false d),.one (.int .i64 p)] :=
    ⟨⟨[.bool d.neg,s,.int .i64 d.e],rfl,Rep.bool _,.words (h.isIn.mono fun g _ _=>⟨⟨by simp,fun h=>h.elim⟩,by simp⟩),Rep.int _ _,trivial⟩,Rep.int _ _,trivial⟩
  refine (rCosN_ok.run (Cn w) w _ _ rfl (fun g h=>h.elim) hT hr trivial).mono ?_
  rintro e w' ⟨v,rfl,hv,hb⟩
  obtain ⟨vs,rfl,hl⟩:=hv
  match vs,hl with
  | [a,k],⟨h1,h3,_⟩ =>
    obtain rfl:=repS_int h3
    exact ⟨a,_,rfl,rep_ivJ h1,hb⟩
theorem both13_junk{w:World}{s:Value}{d:Dx}(p:Int)(hT:Tab w)(h:NatAt 0 w s d.xs) :
    Calls Tryz.prog 8 #[.agg #[.bool d.neg,s,.int .i64 d.e,.bool d.neg,s,.int .i64 d.e],.int .i64 p] w fun e w'=>∃ a b k,e = .returned (.tuple #[a,b,.int .i64 k])∧IvJ w.heap.size w' a∧IvJ w.heap.size w' b∧Below w.heap.size w w':=by
  have hw:Rep (Cn w) noBox w s (.words false d.xs):=.words (h.isIn.mono fun g _ _=>⟨⟨by simp,fun h=>h.elim⟩,by simp⟩)
  have hr:RepSs (Cn w) noBox w [.agg #[.bool d.neg,s,.int .i64 d.e,.bool d.neg,s,.int .i64 d.e],.int .i64 p] [.agg (ivL false ⟨d,d⟩),.one (.int .i64 p)] :=
    ⟨⟨[.bool d.neg,s,.int .i64 d.e,.bool d.neg,s,.int .i64 d.e],rfl,Rep.bool _,hw,Rep.int _ _,Rep.bool _,hw,Rep.int _ _,trivial⟩,Rep.int _ _,trivial⟩
  refine (rBothN_ok.run (Cn w) w _ _ rfl (fun g h=>h.elim) hT hr trivial).mono ?_
  rintro e w' ⟨v,rfl,hv,hb⟩
  obtain ⟨vs,rfl,hl⟩:=hv
  match vs,hl with
  | [a,b,k],⟨h1,h2,h3,_⟩ =>
    obtain rfl:=repS_int h3
    exact ⟨a,b,_,rfl,rep_ivJ h1,rep_ivJ h2,hb⟩
theorem lives13_calls{w:World}(hT:Tab w):Calls Tryz.prog 4 #[] w fun e w'=>e = .returned (.bool true)∧Below w.heap.size w w':=by
  refine (lLive_ok.run (Cn w) w [] [] rfl (fun g h=>h.elim) hT trivial trivial).mono ?_
  rintro e w' ⟨v,rfl,hv,hb⟩
  obtain rfl:=repS_bool (show RepS (Cn w) noBox w' v (.one (.bool true)) from hv)
  exact ⟨rfl,hb⟩
noncomputable def own13Tail:Code:=sndC (sndC (sndC (sndC (sndC (sndC (sndC (bodyC Tryz.f3)))))))
def sOw13:List (FuncId×Spec):=[(11,nNorm),(10,nSame),(12,lEnc)]
theorem own13_vc(x:Dx)(p:Int)(Q:Tv→Prop):exec ⟨tys4,sOw13⟩ 85 0 own13Tail (fun _=>none) (ownSt x p) (finish ⟨tys4,sOw13⟩ Tryz.f3.results.toList Q)=(br (x.neg == x.neg) (br (eqI x.e x.e) (br (decide (ws (val x.xs)=ws (val x.xs))) (true=true∧Q (bT true)) (true=true∧Q (bT false))) (true=true∧Q (bT false))) (true=true∧Q (bT false))):=by kernel_rfl
theorem sOw13_ok:SpecsOk Tryz.prog sOw13:=⟨nNorm_ok,nSame_ok,lEnc_ok,trivial⟩
theorem own13_run(x:Dx)(p:Int):exec ⟨tys4,sOw13⟩ 85 0 own13Tail (fun _=>none) (ownSt x p) (finish ⟨tys4,sOw13⟩ Tryz.f3.results.toList (fun t=>t=bT true)):=by
  rw [own13_vc]
  have e1:(x.neg == x.neg)=true:=by simp
  have e2:eqI x.e x.e=true:=by simp [eqI]
  have e3:decide (ws (val x.xs)=ws (val x.xs))=true:=by simp
  rw [e1,e2,e3]
  exact ⟨rfl,rfl⟩
theorem own13_end{w:World}{a:Act}{x:Dx}{p:Int}{g2 g5:Nat}{s s':Value}(hT:Tab w)(hd:a.defers = [])(hsz:a.tmps.size=85)(h1:a.tmps[1]?=some (.int .i64 p))(h2:a.tmps[2]?=some (.pointer (some ⟨g2,0,none⟩)))(h5:a.tmps[5]?=some (.pointer (some ⟨g5,0,none⟩)))
    (b2:Box3 w g2 0 (.bool x.neg) s (.int .i64 x.e)) (b5:Box3 w g5 0 (.bool x.neg) s' (.int .i64 x.e)) (n2:NatAt 0 w s x.xs) (n5:NatAt 0 w s' x.xs) :
    own13Tail.wp Tryz.prog (bodyPost Tryz.prog Tryz.f3 fun e w'=>e = .returned (.bool true)∧Below w.heap.size w w') a w:=by
  have rp:∀ {g:Nat} {t:Value},Box3 w g 0 (.bool x.neg) t (.int .i64 x.e)→NatAt 0 w t x.xs→Rep (Cn w) noBox w (.pointer (some ⟨g,0,none⟩)) (.ref (dyL false x)):=fun {g t} hb hn =>
    Rep.mkRef (vs:=[.bool x.neg,t,.int .i64 x.e]) hb.lt (by simp) ⟨Rep.bool _,.words (hn.isIn.mono fun g _ _=>⟨⟨by simp,fun h=>h.elim⟩,by simp⟩),Rep.int _ _,trivial⟩ (fun i v hi=>by
      obtain ⟨⟨c1,c2,c3⟩,_⟩:=hb
      match i,hi with
      | 0,hi=>cases hi;exact c1
      | 1,hi=>cases hi;exact c2
      | 2,hi=>cases hi;exact c3)
  have hc:Cfg (ownSt x p).get (fun b=>b<(ownSt x p).nb) (Cn w) 85 w a w noBox:=by
    refine ⟨fun i t ht=>?_,fun b o t ht=>?_,fun b g hb=>by simp at hb,fun b b' g hb=>by simp at hb,hd,hsz,.refl _ _,Nat.le_refl _,fun g hg=>hg.elim,fun b g hb=>by simp at hb,fun g _ _=>rfl,fun h=>absurd h (Nat.lt_irrefl _),fun b o t hb=>by simp at hb,fun o _ _=>⟨rfl,rfl⟩⟩
    · have ht:tGet [(1,iT p),(2,.sv (.one (.ref (dyL false x)))),(5,.sv (.one (.ref (dyL false x))))] i=some t:=ht
      simp only [tGet] at ht
      split at ht
      · rename_i e;obtain rfl:=Nat.eq_of_beq_eq_true e;cases ht;exact ⟨_,h1,Rep.int _ _⟩
      · split at ht
        · rename_i e;obtain rfl:=Nat.eq_of_beq_eq_true e;cases ht;exact ⟨_,h2,rp b2 n2⟩
        · split at ht
          · rename_i e;obtain rfl:=Nat.eq_of_beq_eq_true e;cases ht;exact ⟨_,h5,rp b5 n5⟩
          · cases ht
    · have ht:(match cGet [] b o with | some x=>some (Tv.sv (.one x)) | none=>none)=some t:=ht
      simp [cGet] at ht
  have:=exec_tail (fn:=Tryz.f3) (envOk tys4_ok sOw13_ok) mixed (own13_run x p) (TabB.of rfl hT) hc
  refine wp_mono this ?_
  intro e a' w' hq
  have key:∀ (e:Ending) (w':World),(∃ v t,e=Ending.returned v∧t=bT true∧RepT (Cn w) noBox w' v t∧Below (Cn w).n w w')→e = .returned (.bool true)∧Below w.heap.size w w':=by
    rintro e w' ⟨v,t,rfl,rfl,hr,hb⟩
    obtain rfl:=repS_bool hr
    exact ⟨rfl,hb⟩
  cases e with
  | normal=>obtain ⟨h1,v,h2,h3⟩:=hq;exact ⟨h1,v,h2,key _ _ h3⟩
  | ret=>obtain ⟨h1,v,h2,h3⟩:=hq;exact ⟨h1,v,h2,key _ _ h3⟩
  | panic c=>obtain ⟨h1,h3⟩:=hq;exact ⟨h1,key _ _ h3⟩
  | outgrown=>exact key _ _ hq
  | exit i=>exact hq
  | _=>exact hq
set_option maxHeartbeats 1600000 in
set_option maxRecDepth 100000 in
theorem own13_walk{w:World}{s:Value}{neg:Bool}{xs:List Int}{e p:Int}(hT:Tab w)(h:NatAt 0 w s xs) :
    Calls Tryz.prog 3 #[.agg #[.bool neg,s,.int .i64 e],.int .i64 p] w (fun r w'=>r = .returned (.bool true)∧Below w.heap.size w w'):=by
  have HT:=Lib.hid hT;have HN:=Lib.hid h
  clear hT h
  go_enter Tryz.func3,Tryz.ntmps3
  generalize hT13:Code.seq (Code.region 13 _ true) Code.ret=T13
  have H13:=Lib.hid hT13
  clear hT13
  go_wp2_with fail
  refine (lives13_calls (HT.out.below (below_also _ _))).mono ?_
  rintro r w1 ⟨rfl,hb1⟩
  have B2:=(Box3.new w (.bool neg) s (.int .i64 e) 25).below hb1
  have HB2:=Lib.hid B2
  have T1:=Lib.hid ((HT.out.below (below_also w (.cells #[.bool neg,s,.int .i64 e] 25))).below hb1)
  have N1:=Lib.hid ((HN.out.below (below_also w (.cells #[.bool neg,s,.int .i64 e] 25))).below hb1)
  have W1:=Lib.hid (below_then (below_also w (.cells #[.bool neg,s,.int .i64 e] 25)) hb1)
  obtain ⟨⟨b1,b2,b3⟩,b4,b5,b6⟩:=B2
  simp only [Nat.zero_add] at b1 b2 b3 b4 b5 b6
  clear hb1
  go_wp2_with fail
  refine (copy4_calls (d:=⟨neg,xs,e⟩) N1.out).mono ?_
  rintro r w2 ⟨s',rfl,hn,hb2⟩
  simp only at hn
  obtain ⟨A',L',c',rfl,hL',-,-⟩:=hn.open
  have N2:=Lib.hid hn
  have HB22:=Lib.hid (HB2.out.below hb2)
  have T2:=Lib.hid (T1.out.below hb2)
  have W2:=Lib.hid (below_then W1.out hb2)
  have X2:=Lib.hid (N1.out.below hb2)
  clear b1 b2 b3 b4 b5 b6 hn hb2
  go_wp2_with fail
  obtain ⟨Z,hZ⟩:∃ Z,w2.alloc (.cells #[.bool neg,.slice A' L' c',.int .i64 e] 25)=Z:=⟨_,rfl⟩
  have hbZ:Below w2.heap.size w2 Z:=hZ ▸ below_also _ _
  have HB5:=Lib.hid (hZ ▸ Box3.new w2 (.bool neg) (.slice A' L' c') (.int .i64 e) 25:Box3 Z w2.heap.size 0 _ _ _)
  have zs:Z.heap.size=w2.heap.size+1:=by rw [←hZ];simp
  have HZ2:=Lib.hid (HB22.out.below hbZ)
  have TZ:=Lib.hid (T2.out.below hbZ)
  have WZ:=Lib.hid (below_then W2.out hbZ)
  have NZ:=Lib.hid (N2.out.below hbZ)
  have XZ:=Lib.hid (X2.out.below hbZ)
  rw [hZ]
  clear hZ hbZ
  refine (sin13_junk (d:=⟨neg,xs,e⟩) p TZ.out NZ.out.zero).mono ?_
  rintro r w3 ⟨_,k3,rfl,⟨a1,sa,a2,a3,ta,a4,rfl,ja,ka⟩,hb3⟩
  have JA:=Lib.hid ja;have KA:=Lib.hid ka
  obtain ⟨A1,n1,c1,rfl,-⟩:=ja
  obtain ⟨A2,n2,c2,rfl,-⟩:=ka
  have E3:=Lib.hid hb3
  have M3:=Lib.hid hb3.size
  have q3:∀ o:Obj,Box3 (w3.alloc o) w2.heap.size 0 (.bool neg) (.slice A' L' c') (.int .i64 e):=fun o=>(HB5.out.below hb3).below (below_also _ _)
  have g0:=fun o=>(q3 o).1.1
  have g1:=fun o=>(q3 o).1.2.1
  have g2:=fun o=>(q3 o).1.2.2
  clear q3 hb3
  simp only [Nat.zero_add] at g0 g1 g2
  go_wp2_with fail
  obtain ⟨Y0,hY0⟩:∃ Y,w3.alloc (.cells #[.bool a1,.slice A1 n1 c1,.int .i64 a2,.bool a3,.slice A2 n2 c2,.int .i64 a4] 29)=Y:=⟨_,rfl⟩
  have y0s:Y0.heap.size=w3.heap.size+1:=by rw [←hY0];simp
  have bY0:Below w3.heap.size w3 Y0:=hY0 ▸ below_also _ _
  have P0:=Lib.hid (hY0 ▸ Box6.new w3 a1 a3 (.slice A1 n1 c1) (.slice A2 n2 c2) a2 a4 29:Box6 Y0 w3.heap.size a1 (.slice A1 n1 c1) a2 a3 (.slice A2 n2 c2) a4)
  have E0:=Lib.hid (E3.out.trans (bY0.mono M3.out))
  rw [hY0]
  clear hY0 g0 g1 g2
  refine (cos13_junk (d:=⟨neg,xs,e⟩) p (TZ.out.below E0.out) (NZ.out.below E0.out).zero).mono ?_
  rintro r w4 ⟨_,k4,rfl,⟨b1,sb,b2,b3,tb,b4,rfl,jb,kb⟩,hb4⟩
  have M0:=Lib.hid (show Z.heap.size≤Y0.heap.size by have:=M3.out;omega)
  have JB:=Lib.hid (jb.mono M0.out);have KB:=Lib.hid (kb.mono M0.out)
  obtain ⟨A3,n3,c3,rfl,-⟩:=jb
  obtain ⟨A4,n4,c4,rfl,-⟩:=kb
  have E4:=Lib.hid (E0.out.trans (hb4.mono M0.out))
  have G34:=Lib.hid (below_then bY0 hb4)
  have M4:=Lib.hid (show Z.heap.size≤w4.heap.size by have:=M0.out;have:=hb4.size;omega)
  have L4:=Lib.hid (show w3.heap.size<w4.heap.size by have:=hb4.size;omega)
  have P4:=Lib.hid (P0.out.below hb4)
  have q3:∀ o:Obj,Box3 (w4.alloc o) w2.heap.size 0 (.bool neg) (.slice A' L' c') (.int .i64 e):=fun o=>(HB5.out.below E4.out).below (below_also _ _)
  have g0:=fun o=>(q3 o).1.1
  have g1:=fun o=>(q3 o).1.2.1
  have g2:=fun o=>(q3 o).1.2.2
  clear q3 hb4 bY0 P0
  simp only [Nat.zero_add] at g0 g1 g2
  go_wp2_with fail
  obtain ⟨Y1,hY1⟩:∃ Y,w4.alloc (.cells #[.bool b1,.slice A3 n3 c3,.int .i64 b2,.bool b3,.slice A4 n4 c4,.int .i64 b4] 29)=Y:=⟨_,rfl⟩
  have y1s:Y1.heap.size=w4.heap.size+1:=by rw [←hY1];simp
  have bY1:Below w4.heap.size w4 Y1:=hY1 ▸ below_also _ _
  have P1:=Lib.hid (hY1 ▸ Box6.new w4 b1 b3 (.slice A3 n3 c3) (.slice A4 n4 c4) b2 b4 29:Box6 Y1 w4.heap.size b1 (.slice A3 n3 c3) b2 b3 (.slice A4 n4 c4) b4)
  have E1:=Lib.hid (E4.out.trans (bY1.mono M4.out))
  rw [hY1]
  clear hY1 g0 g1 g2
  refine (both13_junk (d:=⟨neg,xs,e⟩) p (TZ.out.below E1.out) (NZ.out.below E1.out).zero).mono ?_
  rintro r w5 ⟨_,_,k5,rfl,⟨d1,sd,d2,d3,td,d4,rfl,jd,kd⟩,⟨f1,sf,f2,f3,tf,f4,rfl,jf,kf⟩,hb5⟩
  have M1:=Lib.hid (show Z.heap.size≤Y1.heap.size by have:=M4.out;omega)
  have JD:=Lib.hid (jd.mono M1.out);have KD:=Lib.hid (kd.mono M1.out)
  have JF:=Lib.hid (jf.mono M1.out);have KF:=Lib.hid (kf.mono M1.out)
  obtain ⟨A5,n5,c5,rfl,-⟩:=jd
  obtain ⟨A6,n6,c6,rfl,-⟩:=kd
  obtain ⟨A7,n7,c7,rfl,-⟩:=jf
  obtain ⟨A8,n8,c8,rfl,-⟩:=kf
  have E5:=Lib.hid (E1.out.trans (hb5.mono M1.out))
  have G45:=Lib.hid (below_then bY1 hb5)
  have G35:=Lib.hid (below_then G34.out (below_then bY1 hb5))
  have M5:=Lib.hid (show Z.heap.size≤w5.heap.size by have:=M1.out;have:=hb5.size;omega)
  have L5:=Lib.hid (show w3.heap.size<w5.heap.size∧w4.heap.size<w5.heap.size by have:=L4.out;have:=hb5.size;omega)
  have q6:∀ o o':Obj,Box6 ((w5.alloc o).alloc o') w3.heap.size a1 (.slice A1 n1 c1) a2 a3 (.slice A2 n2 c2) a4:=fun o o'=>(((P4.out.below bY1).below hb5).below (below_also _ _)).below (below_also _ _)
  have q7:∀ o o':Obj,Box6 ((w5.alloc o).alloc o') w4.heap.size b1 (.slice A3 n3 c3) b2 b3 (.slice A4 n4 c4) b4:=fun o o'=>((P1.out.below hb5).below (below_also _ _)).below (below_also _ _)
  have u0:=fun o o'=>(q6 o o').1
  have u1:=fun o o'=>(q6 o o').2.1
  have u2:=fun o o'=>(q6 o o').2.2.1
  have u3:=fun o o'=>(q6 o o').2.2.2.1
  have u4:=fun o o'=>(q6 o o').2.2.2.2.1
  have u5:=fun o o'=>(q6 o o').2.2.2.2.2
  have v0:=fun o o'=>(q7 o o').1
  have v1:=fun o o'=>(q7 o o').2.1
  have v2:=fun o o'=>(q7 o o').2.2.1
  have v3:=fun o o'=>(q7 o o').2.2.2.1
  have v4:=fun o o'=>(q7 o o').2.2.2.2.1
  have v5:=fun o o'=>(q7 o o').2.2.2.2.2
  have z34:=L4.out
  have z35:=L5.out.1
  have z45:=L5.out.2
  clear q6 q7 hb5 bY1 P4 P1 y0s y1s
  go_wp2_with fail
  clear z34 z35 z45
  obtain ⟨V,hV⟩:∃ V,((w5.alloc (.cells #[.bool d1,.slice A5 n5 c5,.int .i64 d2,.bool d3,.slice A6 n6 c6,.int .i64 d4] 29)).alloc (.cells #[.bool f1,.slice A7 n7 c7,.int .i64 f2,.bool f3,.slice A8 n8 c8,.int .i64 f4] 29)).alloc (.cells #[.bool a1,.slice A1 n1 c1,.int .i64 a2,.bool a3,.slice A2 n2 c2,.int .i64 a4,.bool b1,.slice A3 n3 c3,.int .i64 b2,.bool b3,.slice A4 n4 c4,.int .i64 b4,.bool d1,.slice A5 n5 c5,.int .i64 d2,.bool d3,.slice A6 n6 c6,.int .i64 d4,.bool f1,.slice A7 n7 c7,.int .i64 f2,.bool f3,.slice A8 n8 c8,.int .i64 f4] 29)=V:=⟨_,rfl⟩
  have hb5V:Below w5.heap.size w5 V:=hV ▸ below_plus (below_plus (below_also _ _) _) _
  have row:V.heap[w5.heap.size+2]?=some (.cells #[.bool a1,.slice A1 n1 c1,.int .i64 a2,.bool a3,.slice A2 n2 c2,.int .i64 a4,.bool b1,.slice A3 n3 c3,.int .i64 b2,.bool b3,.slice A4 n4 c4,.int .i64 b4,.bool d1,.slice A5 n5 c5,.int .i64 d2,.bool d3,.slice A6 n6 c6,.int .i64 d4,.bool f1,.slice A7 n7 c7,.int .i64 f2,.bool f3,.slice A8 n8 c8,.int .i64 f4] 29):=by
    have e2:((w5.alloc (.cells #[.bool d1,.slice A5 n5 c5,.int .i64 d2,.bool d3,.slice A6 n6 c6,.int .i64 d4] 29)).alloc (.cells #[.bool f1,.slice A7 n7 c7,.int .i64 f2,.bool f3,.slice A8 n8 c8,.int .i64 f4] 29)).heap.size=w5.heap.size+2:=by simp
    rw [←hV,←e2]
    exact heap_alloc_new _ _
  have SC:∀ (j:Nat) (v:Value),#[(.bool a1:Value),.slice A1 n1 c1,.int .i64 a2,.bool a3,.slice A2 n2 c2,.int .i64 a4,.bool b1,.slice A3 n3 c3,.int .i64 b2,.bool b3,.slice A4 n4 c4,.int .i64 b4,.bool d1,.slice A5 n5 c5,.int .i64 d2,.bool d3,.slice A6 n6 c6,.int .i64 d4,.bool f1,.slice A7 n7 c7,.int .i64 f2,.bool f3,.slice A8 n8 c8,.int .i64 f4][j]?=some v→(∀ y,v≠.int .u64 y)→∀ {wr:World},Jk Z.heap.size V wr→wr.cell? ⟨w5.heap.size+2,j,none⟩=some v:=fun j v h hn wr hj =>
    (hj.keep _ _ _ ((cell_of_row V _ j _ _ _ row).trans h)).resolve_right (fun h=>by obtain ⟨⟨y,e⟩,_⟩:=h;exact hn y e)
  have ZV:=Lib.hid (show Z.heap.size≤V.heap.size by have:=M5.out;have:=hb5V.size;omega)
  have TaV:=Lib.hid (Jk.grow (n0:=Z.heap.size) (below_then G35.out hb5V) M3.out)
  have TbV:=Lib.hid (Jk.grow (n0:=Z.heap.size) (below_then G45.out hb5V) M4.out)
  have TcV:=Lib.hid (Jk.grow (n0:=Z.heap.size) hb5V M5.out)
  have EV:=Lib.hid (E5.out.trans (hb5V.mono M5.out))
  rw [hV]
  clear hV row hb5V u0 u1 u2 u3 u4 u5 v0 v1 v2 v3 v4 v5
  go_loopw [46] (fun i wr=>∃ (k:Nat),k≤4∧i = .int .i64 k∧Jk Z.heap.size V wr) (fun i _=>4-(intOf i).toNat)
  case atStart=>exact ⟨0,by omega,rfl,Jk.refl _ _⟩
  case round =>
    obtain ⟨k,hk,rfl,hj⟩:=hrel
    have HJ:=Lib.hid hj
    clear hj
    by_cases hlt:k<4
    · have hdec:decide ((k:Int)<4)=true:=by simp;omega
      have cases:k=0∨k=1∨k=2∨k=3:=by omega
      rcases cases with rfl | rfl | rfl | rfl
      · -- round 0
        have s0:wr.cell? ⟨w5.heap.size+2,0,none⟩=some (.bool a1):=SC 0 _ rfl (by simp) HJ.out
        have s1:wr.cell? ⟨w5.heap.size+2,1,none⟩=some (.slice A1 n1 c1):=SC 1 _ rfl (by simp) HJ.out
        have s2:wr.cell? ⟨w5.heap.size+2,2,none⟩=some (.int .i64 a2):=SC 2 _ rfl (by simp) HJ.out
        have s3:wr.cell? ⟨w5.heap.size+2,3,none⟩=some (.bool a3):=SC 3 _ rfl (by simp) HJ.out
        have s4:wr.cell? ⟨w5.heap.size+2,4,none⟩=some (.slice A2 n2 c2):=SC 4 _ rfl (by simp) HJ.out
        have s5:wr.cell? ⟨w5.heap.size+2,5,none⟩=some (.int .i64 a4):=SC 5 _ rfl (by simp) HJ.out
        obtain ⟨U,hU⟩:∃ U,wr.alloc (.cells #[.bool a1,.slice A1 n1 c1,.int .i64 a2,.bool a3,.slice A2 n2 c2,.int .i64 a4] 29)=U:=⟨_,rfl⟩
        have hjU:Jk Z.heap.size wr U:=Jk.grow (hU ▸ below_also _ _) (Nat.le_trans ZV.out HJ.out.size)
        have KU:Box6 U wr.heap.size a1 (.slice A1 n1 c1) a2 a3 (.slice A2 n2 c2) a4:=hU ▸ Box6.new wr a1 a3 (.slice A1 n1 c1) (.slice A2 n2 c2) a2 a4 29
        have PU:=Lib.hid hjU;have QU:=Lib.hid KU
        have JU:=Lib.hid (((JA.out.jk TaV.out).jk HJ.out).jk hjU);have LU:=Lib.hid (((KA.out.jk TaV.out).jk HJ.out).jk hjU)
        have k1:=KU.2.1
        clear hjU KU
        go_wp2_with fail
        clear hU k1
        refine (spoil13_calls (n0:=Z.heap.size) JU.out).mono ?_
        rintro r w7 ⟨rfl,hj7⟩
        have R4:w7.cell? ⟨wr.heap.size,4,none⟩=some (.slice A2 n2 c2):=(hj7.keep _ _ _ QU.out.2.2.2.2.1).resolve_right (fun h=>by obtain ⟨⟨y,e⟩,_⟩:=h;cases e)
        have P7:=Lib.hid hj7
        clear hj7
        go_wp2_with fail
        refine (spoil13_calls (n0:=Z.heap.size) (LU.out.jk P7.out)).mono ?_
        rintro r w8 ⟨rfl,hj8⟩
        have P8:=Lib.hid hj8
        clear hj8
        go_wp2
        go_roundw
        case rel=>exact ⟨1,by omega,rfl,((HJ.out.trans PU.out).trans P7.out).trans P8.out⟩
        case measure=>simp [intOf]
      · -- round 1
        have s0:wr.cell? ⟨w5.heap.size+2,6,none⟩=some (.bool b1):=SC 6 _ rfl (by simp) HJ.out
        have s1:wr.cell? ⟨w5.heap.size+2,7,none⟩=some (.slice A3 n3 c3):=SC 7 _ rfl (by simp) HJ.out
        have s2:wr.cell? ⟨w5.heap.size+2,8,none⟩=some (.int .i64 b2):=SC 8 _ rfl (by simp) HJ.out
        have s3:wr.cell? ⟨w5.heap.size+2,9,none⟩=some (.bool b3):=SC 9 _ rfl (by simp) HJ.out
        have s4:wr.cell? ⟨w5.heap.size+2,10,none⟩=some (.slice A4 n4 c4):=SC 10 _ rfl (by simp) HJ.out
        have s5:wr.cell? ⟨w5.heap.size+2,11,none⟩=some (.int .i64 b4):=SC 11 _ rfl (by simp) HJ.out
        obtain ⟨U,hU⟩:∃ U,wr.alloc (.cells #[.bool b1,.slice A3 n3 c3,.int .i64 b2,.bool b3,.slice A4 n4 c4,.int .i64 b4] 29)=U:=⟨_,rfl⟩
        have hjU:Jk Z.heap.size wr U:=Jk.grow (hU ▸ below_also _ _) (Nat.le_trans ZV.out HJ.out.size)
        have KU:Box6 U wr.heap.size b1 (.slice A3 n3 c3) b2 b3 (.slice A4 n4 c4) b4:=hU ▸ Box6.new wr b1 b3 (.slice A3 n3 c3) (.slice A4 n4 c4) b2 b4 29
        have PU:=Lib.hid hjU;have QU:=Lib.hid KU
        have JU:=Lib.hid (((JB.out.jk TbV.out).jk HJ.out).jk hjU);have LU:=Lib.hid (((KB.out.jk TbV.out).jk HJ.out).jk hjU)
        have k1:=KU.2.1
        clear hjU KU
        go_wp2_with fail
        clear hU k1
        refine (spoil13_calls (n0:=Z.heap.size) JU.out).mono ?_
        rintro r w7 ⟨rfl,hj7⟩
        have R4:w7.cell? ⟨wr.heap.size,4,none⟩=some (.slice A4 n4 c4):=(hj7.keep _ _ _ QU.out.2.2.2.2.1).resolve_right (fun h=>by obtain ⟨⟨y,e⟩,_⟩:=h;cases e)
        have P7:=Lib.hid hj7
        clear hj7
        go_wp2_with fail
        refine (spoil13_calls (n0:=Z.heap.size) (LU.out.jk P7.out)).mono ?_
        rintro r w8 ⟨rfl,hj8⟩
        have P8:=Lib.hid hj8
        clear hj8
        go_wp2
        go_roundw
        case rel=>exact ⟨2,by omega,rfl,((HJ.out.trans PU.out).trans P7.out).trans P8.out⟩
        case measure=>simp [intOf]
      · -- round 2
        have s0:wr.cell? ⟨w5.heap.size+2,12,none⟩=some (.bool d1):=SC 12 _ rfl (by simp) HJ.out
        have s1:wr.cell? ⟨w5.heap.size+2,13,none⟩=some (.slice A5 n5 c5):=SC 13 _ rfl (by simp) HJ.out
        have s2:wr.cell? ⟨w5.heap.size+2,14,none⟩=some (.int .i64 d2):=SC 14 _ rfl (by simp) HJ.out
        have s3:wr.cell? ⟨w5.heap.size+2,15,none⟩=some (.bool d3):=SC 15 _ rfl (by simp) HJ.out
        have s4:wr.cell? ⟨w5.heap.size+2,16,none⟩=some (.slice A6 n6 c6):=SC 16 _ rfl (by simp) HJ.out
        have s5:wr.cell? ⟨w5.heap.size+2,17,none⟩=some (.int .i64 d4):=SC 17 _ rfl (by simp) HJ.out
        obtain ⟨U,hU⟩:∃ U,wr.alloc (.cells #[.bool d1,.slice A5 n5 c5,.int .i64 d2,.bool d3,.slice A6 n6 c6,.int .i64 d4] 29)=U:=⟨_,rfl⟩
        have hjU:Jk Z.heap.size wr U:=Jk.grow (hU ▸ below_also _ _) (Nat.le_trans ZV.out HJ.out.size)
        have KU:Box6 U wr.heap.size d1 (.slice A5 n5 c5) d2 d3 (.slice A6 n6 c6) d4:=hU ▸ Box6.new wr d1 d3 (.slice A5 n5 c5) (.slice A6 n6 c6) d2 d4 29
        have PU:=Lib.hid hjU;have QU:=Lib.hid KU
        have JU:=Lib.hid (((JD.out.jk TcV.out).jk HJ.out).jk hjU);have LU:=Lib.hid (((KD.out.jk TcV.out).jk HJ.out).jk hjU)
        have k1:=KU.2.1
        clear hjU KU
        go_wp2_with fail
        clear hU k1
        refine (spoil13_calls (n0:=Z.heap.size) JU.out).mono ?_
        rintro r w7 ⟨rfl,hj7⟩
        have R4:w7.cell? ⟨wr.heap.size,4,none⟩=some (.slice A6 n6 c6):=(hj7.keep _ _ _ QU.out.2.2.2.2.1).resolve_right (fun h=>by obtain ⟨⟨y,e⟩,_⟩:=h;cases e)
        have P7:=Lib.hid hj7
        clear hj7
        go_wp2_with fail
        refine (spoil13_calls (n0:=Z.heap.size) (LU.out.jk P7.out)).mono ?_
        rintro r w8 ⟨rfl,hj8⟩
        have P8:=Lib.hid hj8
        clear hj8
        go_wp2
        go_roundw
        case rel=>exact ⟨3,by omega,rfl,((HJ.out.trans PU.out).trans P7.out).trans P8.out⟩
        case measure=>simp [intOf]
      · -- round 3
        have s0:wr.cell? ⟨w5.heap.size+2,18,none⟩=some (.bool f1):=SC 18 _ rfl (by simp) HJ.out
        have s1:wr.cell? ⟨w5.heap.size+2,19,none⟩=some (.slice A7 n7 c7):=SC 19 _ rfl (by simp) HJ.out
        have s2:wr.cell? ⟨w5.heap.size+2,20,none⟩=some (.int .i64 f2):=SC 20 _ rfl (by simp) HJ.out
        have s3:wr.cell? ⟨w5.heap.size+2,21,none⟩=some (.bool f3):=SC 21 _ rfl (by simp) HJ.out
        have s4:wr.cell? ⟨w5.heap.size+2,22,none⟩=some (.slice A8 n8 c8):=SC 22 _ rfl (by simp) HJ.out
        have s5:wr.cell? ⟨w5.heap.size+2,23,none⟩=some (.int .i64 f4):=SC 23 _ rfl (by simp) HJ.out
        obtain ⟨U,hU⟩:∃ U,wr.alloc (.cells #[.bool f1,.slice A7 n7 c7,.int .i64 f2,.bool f3,.slice A8 n8 c8,.int .i64 f4] 29)=U:=⟨_,rfl⟩
        have hjU:Jk Z.heap.size wr U:=Jk.grow (hU ▸ below_also _ _) (Nat.le_trans ZV.out HJ.out.size)
        have KU:Box6 U wr.heap.size f1 (.slice A7 n7 c7) f2 f3 (.slice A8 n8 c8) f4:=hU ▸ Box6.new wr f1 f3 (.slice A7 n7 c7) (.slice A8 n8 c8) f2 f4 29
        have PU:=Lib.hid hjU;have QU:=Lib.hid KU
        have JU:=Lib.hid (((JF.out.jk TcV.out).jk HJ.out).jk hjU);have LU:=Lib.hid (((KF.out.jk TcV.out).jk HJ.out).jk hjU)
        have k1:=KU.2.1
        clear hjU KU
        go_wp2_with fail
        clear hU k1
        refine (spoil13_calls (n0:=Z.heap.size) JU.out).mono ?_
        rintro r w7 ⟨rfl,hj7⟩
        have R4:w7.cell? ⟨wr.heap.size,4,none⟩=some (.slice A8 n8 c8):=(hj7.keep _ _ _ QU.out.2.2.2.2.1).resolve_right (fun h=>by obtain ⟨⟨y,e⟩,_⟩:=h;cases e)
        have P7:=Lib.hid hj7
        clear hj7
        go_wp2_with fail
        refine (spoil13_calls (n0:=Z.heap.size) (LU.out.jk P7.out)).mono ?_
        rintro r w8 ⟨rfl,hj8⟩
        have P8:=Lib.hid hj8
        clear hj8
        go_wp2
        go_roundw
        case rel=>exact ⟨4,by omega,rfl,((HJ.out.trans PU.out).trans P7.out).trans P8.out⟩
        case measure=>simp [intOf]
    · obtain rfl:k=4:=by omega
      go_wp2_with fail
      have hZr:Below Z.heap.size Z wr:=EV.out.trans HJ.out.below
      obtain rfl:T13=own13Tail:=H13.out.symm
      clear H13
      refine wp_mono (own13_end (x:=⟨neg,xs,e⟩) (p:=p) (TZ.out.below hZr) rfl rfl rfl rfl rfl (HZ2.out.below hZr) (HB5.out.below hZr) (XZ.out.below hZr) (NZ.out.below hZr).zero) ?_
      intro e a' w' hq
      have key:∀ (e:Ending) (w':World),(e=Ending.returned (.bool true)∧Below wr.heap.size wr w')→e = .returned (.bool true)∧Below w.heap.size w w':=by
        rintro e w' ⟨rfl,hb⟩
        exact ⟨rfl,below_then (below_then WZ.out hZr) hb⟩
      cases e with
      | normal=>obtain ⟨h1,v,h2,h3⟩:=hq;exact ⟨h1,v,h2,key _ _ h3⟩
      | ret=>obtain ⟨h1,v,h2,h3⟩:=hq;exact ⟨h1,v,h2,key _ _ h3⟩
      | panic c=>obtain ⟨h1,h3⟩:=hq;exact ⟨h1,key _ _ h3⟩
      | outgrown=>exact key _ _ hq
      | exit i=>exact hq
      | _=>exact hq
def lOw13:Spec:=specK [.d,.i .i64] fun (_:Dx) (_:Int)=>(none,bT true)
theorem lOw13_ok:SpecOk Tryz.prog 3 lOw13 :=
  handK_ok Tryz.func3 rfl (by decide) fun C w hC hX hT=>fun (d:Dx) _ v h (p:Int) _ v' h' _=>by
    obtain ⟨vs,rfl,hl⟩:∃ vs,v = .agg vs.toArray∧RepL C noBox w vs (dyL false d):=by
      obtain ⟨vs,h1,h2⟩:=h;exact ⟨vs,h1,h2⟩
    obtain rfl:=repS_int h'
    match vs,hl with
    | [a,b,c],⟨h1,h2,h3,_⟩ =>
      obtain rfl:=rep_bool h1
      obtain rfl:=rep_int h3
      refine (own13_walk hT (rep_natAt h2)).mono ?_
      rintro e w' ⟨rfl,hb⟩
      exact ⟨_,rfl,Rep.bool _,hb⟩
end Go.Proofs.YtbmolijeikedcaaGreatDoor
namespace Go.Proofs.YtbmolijeikedcaaGreatDoor
open Go.RowKit Go.ChangeShapes Go.WideShapes Go.Deep
set_option maxRecDepth 100000
def C0(W:World):Base:=⟨W.heap.size,fun _=>False,0⟩
section
variable {H:Type} {enc:TypeId×Value→H} {W:World} {base fuel:Nat} {s:Value} {x:DataW H×List MemPlace}
def PlOk(W:World)(p:MemPlace):Prop:=p.block<W.heap.size∧∀ b o,p = .cell b o→W.frozen? ⟨b,o,none⟩=false
theorem open_words(hv:Cell.okWide Tryz.prog W .any base 23 s)(h:DataW.trod enc Tryz.prog W 0 (fun _=>true) true fuel 23 [s]=some x)
    (hw:(x.1.weights Tryz.prog 23).all (·≤reachBytes)=true) (hlt:∀ p∈x.2,PlOk W p):∃ xs,Rep (C0 W) noBox W s (.words false xs):=by
  rcases open_ints Tryz.underlying23 Tryz.underlying52 (by kernel_rfl) h with ⟨e,rfl⟩|⟨a,len,cap,zs,e,_,hl,hm,hz,rfl,hc,hwf⟩
  · cases e
    exact ⟨[],.words ⟨none,0,rfl,Nat.le_refl _,⟨by omega,by simp⟩,Words.nil,fun _=>rfl,fun h=>absurd h (by simp)⟩⟩
  · cases e
    rw [if_pos rfl] at hz
    obtain ⟨_,_,_,hspot,_⟩:len≤cap∧(cap:Int)≤IntKind.i64.max∧W.has Tryz.prog .any base a 52 cap:=by
      simpa [Cell.okWide,Cell.ok,Tryz.underlying23] using hv
    obtain ⟨g,o,spot⟩:=a
    simp only at hspot;subst hspot
    have hb8:Tryz.prog.bytesOf 52=8:=by kernel_rfl
    have hwt:(len+(cap-len))*8≤reachBytes:=by
      simp only [DataW.weights,Tryz.underlying23,List.all_cons,Bool.and_eq_true,decide_eq_true_eq,lits,List.length_map,List.length_take,List.length_drop,hz,hb8] at hw
      have:=hw.1
      rwa [Nat.min_eq_left hl] at this
    have hr:reachBytes=140737488351232:=rfl
    rw [hr] at hwt
    have hwords:Words zs:=fun n hn=>by
      have:=hwf n hn
      simp only [Lit.wf,Bool.and_eq_true,decide_eq_true_eq] at this
      have h1:IntKind.u64.min=0:=rfl
      have h2:IntKind.u64.max=18446744073709551615:=rfl
      rw [h1,h2] at this
      exact ⟨by omega,by omega⟩
    have hlen:(zs.take len).length=len:=by rw [List.length_take];omega
    refine ⟨zs.take len,.words ⟨_,cap,by rw [hlen],by omega,⟨by simp [maxLen] at hm;omega,by omega⟩,hwords.take _,by simp,fun hp=>⟨g,o,rfl,⟨⟨by simp [noBox],fun hx=>hx.elim⟩,by simp⟩,?_,fun j hj=>?_⟩⟩⟩
    · exact World.block_lt_of_cell? W _ (hc 0 (by omega))
    · have hj:j<len:=by omega
      have:=hc j (by omega)
      rw [nth_take hj]
      rw [show (⟨g,o,none⟩:Addr).add j=⟨g,o+j,none⟩ from by simp [Addr.add]] at this
      exact ⟨this,(hlt (.cell g (o+j)) (by
        show _∈MemPlace.row ⟨g,o,none⟩ zs.length
        unfold MemPlace.row
        exact List.mem_map.2 ⟨j,List.mem_range.2 (by omega),rfl⟩)).2 g (o+j) rfl⟩
theorem open_dy{cs:List Value}(hok:∀ c,cs[1]?=some c→Cell.okWide Tryz.prog W .any base 23 c)(h:DataW.trod enc Tryz.prog W 0 (fun _=>true) true fuel 25 cs=some x)
    (hw:(x.1.weights Tryz.prog 25).all (·≤reachBytes)=true) (hlt:∀ p∈x.2,PlOk W p):∃ d:Dx,RepL (C0 W) noBox W cs (dyL false d):=by
  obtain ⟨y0,y1,y2,n,rfl,hl,h0,h1,h2⟩:=trod_struct3 Tryz.underlying25 h
  rw [show Tryz.prog.cellsOf 25=3 by kernel_rfl] at hl
  match cs,hl with
  | [c0,c1,c2],_ =>
    obtain ⟨b,e0,rfl⟩:=DataW.trod_bool Tryz.underlying4 h0
    obtain ⟨k,e2,rfl,hk⟩:=DataW.trod_int Tryz.underlying3 h2
    rw [show Tryz.prog.cellsOf 4=1 by kernel_rfl] at e0
    rw [show Tryz.prog.cellsOf 3=1 by kernel_rfl] at e2
    simp at e0 e2
    subst e0;subst e2
    simp only [show Tryz.prog.cellsOf 23=1 by kernel_rfl] at h1
    simp only [DataW.weights,Tryz.underlying25,DataW.weightsEach,List.map_cons,List.map_nil,List.all_append,Bool.and_eq_true] at hw
    obtain ⟨xs,hxs⟩:=open_words (hok c1 rfl) (by simpa using h1) hw.2.1 (fun p hp=>hlt p (by simp [hp]))
    exact ⟨⟨b,xs,k⟩,Rep.bool b,hxs,Rep.int _ k,trivial⟩
theorem arg_d{v:Value}{d:DataW H}{ps:List MemPlace}(hv:Value.okWide Tryz.prog W .any base 25 v)(h:DataW.Trod enc Tryz.prog W 0 (fun _=>true) true 25 v d ps)
    (hw:(d.weights Tryz.prog 25).all (·≤reachBytes)=true) (hlt:∀ p∈ps,PlOk W p):∃ x:Dx,RepS (C0 W) noBox W v (.agg (dyL false x)):=by
  simp only [Value.okWide,Tryz.underlying25] at hv
  obtain ⟨cs,rfl,hsz,ts,hts,_,hrow⟩:=hv
  rw [show Tryz.prog.cellTypes Tryz.prog.depth 25=some [4,23,3] by kernel_rfl] at hts
  cases hts
  obtain ⟨fuel,h⟩:=h
  obtain ⟨x,hx⟩:=open_dy (x:=(d,ps)) (base:=base) (fun c hc=>by
    obtain ⟨u,hu,hok⟩:=hrow 1 c (by rw [←Array.getElem?_toList];exact hc)
    cases hu;exact hok) h hw hlt
  exact ⟨x,cs.toList,rfl,hx⟩
theorem arg_v{v:Value}{d:DataW H}{ps:List MemPlace}(hv:Value.okWide Tryz.prog W .any base 29 v)(h:DataW.Trod enc Tryz.prog W 0 (fun _=>true) true 29 v d ps)
    (hw:(d.weights Tryz.prog 29).all (·≤reachBytes)=true) (hlt:∀ p∈ps,PlOk W p):∃ x:Vx,RepS (C0 W) noBox W v (.agg (ivL false x)):=by
  simp only [Value.okWide,Tryz.underlying29] at hv
  obtain ⟨cs,rfl,hsz,ts,hts,_,hrow⟩:=hv
  rw [show Tryz.prog.cellTypes Tryz.prog.depth 29=some [4,23,3,4,23,3] by kernel_rfl] at hts
  cases hts
  rw [show Tryz.prog.cellsOf 29=6 by kernel_rfl] at hsz
  obtain ⟨fuel,h⟩:=h
  obtain ⟨cs⟩:=cs
  match cs,hsz with
  | [c0,c1,c2,c3,c4,c5],_ =>
    obtain ⟨y0,y1,n,e,_,h0,h1⟩:=trod_struct2 Tryz.underlying29 h
    cases e
    simp only [show Tryz.prog.cellsOf 25=3 by kernel_rfl] at h0 h1
    simp only [DataW.weights,Tryz.underlying29,DataW.weightsEach,List.map_cons,List.map_nil,List.all_append,Bool.and_eq_true] at hw
    obtain ⟨x,hx⟩:=open_dy (cs:=[c0,c1,c2]) (base:=base) (fun c hc=>by
      obtain ⟨u,hu,hok⟩:=hrow 1 c hc
      cases hu;exact hok) h0 hw.1 (fun p hp=>hlt p (by simp [hp]))
    obtain ⟨y,hy⟩:=open_dy (cs:=[c3,c4,c5]) (base:=base) (fun c hc=>by
      obtain ⟨u,hu,hok⟩:=hrow 4 c hc
      cases hu;exact hok) h1 hw.2.1 (fun p hp=>hlt p (by simp [hp]))
    obtain ⟨a1,a2,a3,_⟩:=hx
    obtain ⟨b1,b2,b3,_⟩:=hy
    exact ⟨⟨x,y⟩,[c0,c1,c2,c3,c4,c5],rfl,a1,a2,a3,b1,b2,b3,trivial⟩
def Kd:Ak→TypeId→Prop
  | .b,t=>t=4
  | .i q,t=>Tryz.prog.underlying t=some (.int q)
  | .w,_=>False
  | .fx,_=>False
  | .p,_=>False
  | .d,t=>t=25
  | .v,t=>t=29
def Kds:List Ak→List TypeId→Prop
  | [],[]=>True
  | k :: ks,t :: ts=>Kd k t∧Kds ks ts
  | _,_=>False
def okArg:(k:Ak)→k.T→Prop
  | .i q,n=>q.min≤n∧n≤q.max
  | _,_=>True
theorem arg_k{k:Ak}{t:TypeId}(hk:Kd k t){v:Value}{d:DataW H}{ps:List MemPlace}(hv:Value.okWide Tryz.prog W .any base t v)(h:DataW.Trod enc Tryz.prog W 0 (fun _=>true) true t v d ps)
    (hw:(d.weights Tryz.prog t).all (·≤reachBytes)=true) (hlt:∀ p∈ps,PlOk W p):∃ x:k.T,RepS (C0 W) noBox W v (k.enc x)∧okArg k x:=by
  cases k with
  | b =>
    obtain rfl:t=4:=hk
    obtain ⟨b,rfl⟩:=okWide_bool Tryz.underlying4 hv
    exact ⟨b,Rep.bool b,trivial⟩
  | i q =>
    obtain ⟨n,rfl⟩:=okWide_int hk hv
    refine ⟨n,Rep.int q n,(show q.min≤n∧n≤q.max from ?_)⟩
    have hk:Tryz.prog.underlying t=some (.int q):=hk
    simpa [Value.okWide,Cell.okWide,Cell.ok,hk,IntKind.has] using hv
  | w=>exact hk.elim
  | fx=>exact hk.elim
  | p=>exact hk.elim
  | d =>
    obtain rfl:t=25:=hk
    obtain ⟨x,hx⟩:=arg_d hv h hw hlt;exact ⟨x,hx,trivial⟩
  | v =>
    obtain rfl:t=29:=hk
    obtain ⟨x,hx⟩:=arg_v hv h hw hlt;exact ⟨x,hx,trivial⟩
theorem dec_enc(k:Ak)(x:k.T):k.dec (k.enc x)=some x:=by
  cases k with
  | i q=>cases q<;>rfl
  | _=>rfl
def AllTrue:(ks:List Ak)→AFun ks→Prop
  | [],g=>(match g.1 with | none=>True | some p=>p)∧g.2 = .sv (.one (.bool true))
  | k :: ks,g=>∀ x:k.T,okArg k x→AllTrue ks (g x)
theorem args_ok:∀ {ks:List Ak} {ts:List TypeId} {vs:List Value} {ds:List (DataW H)} {ps:List MemPlace},Kds ks ts→(∀ (j:Nat) t v,ts[j]?=some t→vs[j]?=some v→Value.okWide Tryz.prog W .any base t v) →
    DataW.TrodAll enc Tryz.prog W 0 (fun _=>true) true ts vs ds ps→(DataW.weightsEach Tryz.prog ts ds).all (·≤reachBytes)=true→(∀ p∈ps,PlOk W p) →
    ∃ l,RepSs (C0 W) noBox W vs l∧∀ g,AllTrue ks g→(match (specK ks g l).1 with | none=>True | some p=>p)∧(specK ks g l).2 = .sv (.one (.bool true))
  | [],[],vs,ds,ps,_,_,h,_,_=>by
    obtain ⟨rfl,rfl,rfl⟩:=trodAll_nil h
    exact ⟨[],trivial,fun g hg=>hg⟩
  | [],_ :: _,_,_,_,hk,_,_,_,_=>hk.elim
  | _ :: _,[],_,_,_,hk,_,_,_,_=>hk.elim
  | k :: ks,t :: ts,vs,ds,ps,hk,hv,h,hw,hlt=>by
    obtain ⟨v,vs1,d,ds1,a,b,rfl,rfl,rfl,h1,h2⟩:=trodAll_cons h
    simp only [DataW.weightsEach,List.all_append,Bool.and_eq_true] at hw
    obtain ⟨x,hx,hox⟩:=arg_k hk.1 (hv 0 t v rfl rfl) h1 hw.1 (fun p hp=>hlt p (by simp [hp]))
    obtain ⟨l,hl,hs⟩:=args_ok hk.2 (fun j t v ht hv'=>hv (j+1) t v ht hv') h2 hw.2 (fun p hp=>hlt p (by simp [hp]))
    refine ⟨k.enc x :: l,⟨hx,hl⟩,fun g hg=>?_⟩
    have e:specK (k :: ks) g (k.enc x :: l)=(match k.dec (k.enc x) with | some x=>specK ks (g x) l | none=>noSpec):=rfl
    rw [e,dec_enc]
    exact hs (g x) (hg x hox)
theorem law_calls{f:FuncId}{ks:List Ak}{g:AFun ks}(hs:SpecOk Tryz.prog f (specK ks g))(hg:AllTrue ks g){ts:List TypeId}{args:Array Value}{ds:List (DataW H)}{ps:List MemPlace}(hT:Tab W)(hk:Kds ks ts)
    (hv:∀ (j:Nat) t v,ts[j]?=some t→args.toList[j]?=some v→Value.okWide Tryz.prog W .any base t v) (h:DataW.TrodAll enc Tryz.prog W 0 (fun _=>true) true ts args.toList ds ps)
    (hw:(DataW.weightsEach Tryz.prog ts ds).all (·≤reachBytes)=true) (hlt:∀ p∈ps,PlOk W p) :
    Calls Tryz.prog f args W fun e W'=>e = .returned (.bool true)∧Below W.heap.size W W':=by
  obtain ⟨l,hl,hsp⟩:=args_ok hk hv h hw hlt
  have:=hs.2 (C0 W) W args.toList l rfl (fun g hg=>hg.elim) hT hl (hsp g hg).1
  rw [(hsp g hg).2] at this
  refine this.mono ?_
  rintro e w' ⟨v,rfl,hr,hb⟩
  obtain rfl:=rep_bool (A:=noBox) hr
  exact ⟨rfl,hb⟩
theorem trodAll_below{W':World}(hb:Below W.heap.size W W')(hl:laidOutB Tryz.prog=true):∀ {ts:List TypeId} {vs:List Value} {ds:List (DataW H)} {ps:List MemPlace},(∀ t∈ts,Tryz.prog.readableRec t=true∧t<Tryz.prog.types.size) →
    DataW.TrodAll enc Tryz.prog W 0 (fun _=>true) true ts vs ds ps→(∀ p∈ps,p.block<W.heap.size)→DataW.TrodAll enc Tryz.prog W' 0 (fun b=>decide (b<W.heap.size)) true ts vs ds ps
  | [],vs,ds,ps,_,h,_=>by
    obtain ⟨rfl,rfl,rfl⟩:=trodAll_nil h
    exact trodAll_mk0
  | t :: ts,vs,ds,ps,ht,h,hlt=>by
    obtain ⟨v,vs1,d,ds1,a,b,rfl,rfl,rfl,h1,h2⟩:=trodAll_cons h
    exact ⟨a,b,Below.trod hl (ht t (by simp)).1 (ht t (by simp)).2 h1 hb (fun p hp=>hlt p (by simp [hp])),trodAll_below hb hl (fun t h=>ht t (by simp [h])) h2 (fun p hp=>hlt p (by simp [hp])),rfl⟩
theorem law_post{fn:Func}{s:ChangeSpec}(hl:laidOutB Tryz.prog=true)(hres:fn.resultTypes = #[4])(hvars:s.vars = [])(ht:∀ t∈fn.params.toList,Tryz.prog.readableRec t=true∧t<Tryz.prog.types.size)
    {args:Array Value} {ds gs:List (DataW H)} {before:List MemPlace} (hspec:s.fn H (ds ++ gs) = { results:=[.lit (.bool true)],args:=ds })
    (hW:DataW.Whole enc Tryz.prog fn.params.toList s.vars false W args.toList ds gs before) {W':World} (hb:Below W.heap.size W W') :
    s.post enc Tryz.prog fn false true false false W args (.bool true) W':=by
  have hlt:=hW.lt
  have hW':=hW
  obtain ⟨p,q,hA,hV,rfl,hfz,hnd⟩:=hW
  rw [hvars] at hV
  obtain ⟨rfl,rfl⟩:=trodVars_none hV
  refine ⟨ds,[],_,[],p,[],hW',?_,?_,?_,hb.frame _,fun h=>by cases h⟩
  · rw [hspec,hres]
    exact trodAll_mk1 (shut_bool Tryz.underlying4 _)
  · rw [hspec]
    exact trodAll_below hb hl ht hA (fun x hx=>hlt x (by simp [hx]))
  · rw [hspec,hvars];rfl
end
theorem law_contract{H:Type}{enc:TypeId×Value→H}{f:FuncId}{fn:Func}{ks:List Ak}{g:AFun ks}{s:ChangeSpec}(hs:SpecOk Tryz.prog f (specK ks g))(hg:AllTrue ks g)(hl:laidOutB Tryz.prog=true)(hres:fn.resultTypes = #[4])(hvars:s.vars = [])
    (hvt:s.plain.varTypes Tryz.prog = []) (ht:∀ t∈fn.params.toList,Tryz.prog.readableRec t=true∧t<Tryz.prog.types.size) (hk:Kds ks fn.params.toList) (hspec:∀ ds:List (DataW H),ds.length=fn.params.toList.length→s.fn H ds = { results:=[.lit (.bool true)],args:=ds })
    {W:World} {base:Nat} {args:Array Value} {ds gs:List (DataW H)} {before:List MemPlace} (hval:∀ (j:Nat) t v,fn.params[j]?=some t→args[j]?=some v→Value.okWide Tryz.prog W .any base t v)
    (hW:DataW.Whole enc Tryz.prog fn.params.toList s.vars false W args.toList ds gs before) (hw:(DataW.weightsEach Tryz.prog (fn.params.toList ++ s.plain.varTypes Tryz.prog) (ds ++ gs)).all (·≤reachBytes)=true) (hT:Tab W) :
    Calls Tryz.prog f args W fun e W'=>∃ v,e = .returned v∧s.post enc Tryz.prog fn false true false false W args v W':=by
  have hlt:=hW.lt
  have hW':=hW
  obtain ⟨p,q,hA,hV,rfl,hfz,hnd⟩:=hW
  rw [hvars] at hV
  obtain ⟨rfl,rfl⟩:=trodVars_none hV
  rw [hvt,List.append_nil,List.append_nil] at hw
  refine (law_calls hs hg hT hk (fun j t v h1 h2=>hval j t v (by rw [←Array.getElem?_toList];exact h1) (by rw [←Array.getElem?_toList];exact h2)) hA hw (fun x hx=>⟨hlt x (by simp [hx]),fun b o e=>hfz b o (by rw [←e];simp [hx])⟩)).mono ?_
  rintro e W' ⟨rfl,hb⟩
  exact ⟨_,rfl,law_post hl hres hvars ht (by rw [List.append_nil];exact hspec ds (trodAll_length hA).2) hW' hb⟩
theorem tabA_of{W:World}{D:DataW Unit}(hD:∀ ys:List (DataW Unit×List MemPlace),D = .agg (ys.map (·.1))→∀ j,j<64→∃ y,ys[j]?=some y∧y.1 = .lit (.int .u8 (Lib.deBruijn64tab.getD j 0)))
    {g0 : Nat} {t0 : TypeId} {cs0 : Array Value} {f0 : Nat} {p0 : List MemPlace} (hg0 : Tryz.prog.globalNamed "math/bits.deBruijn64tab" = some g0) (ht0 : (Tryz.prog.globals[g0]?).map (·.type) = some t0) (hv0 : W.var? Tryz.prog "math/bits.deBruijn64tab" = some cs0)
    (hd0:DataW.trod (fun _=>()) Tryz.prog W 0 (fun _=>true) false f0 t0 cs0.toList=some (D,p0)):TabA W:=by
  obtain rfl := Option.some.inj ((show Tryz.prog.globalNamed "math/bits.deBruijn64tab" = some 0 by kernel_rfl).symm.trans hg0)
  obtain rfl:=Option.some.inj ((show (Tryz.prog.globals[0]?).map (·.type)=some 127 by kernel_rfl).symm.trans ht0)
  obtain ⟨xs,m1,_,hx1,hlen,hn3,hel⟩:=DataW.trod_array Tryz.underlying127 hd0
  intro j hj
  simp only [Prod.mk.injEq] at hx1
  obtain ⟨y,hy,hy1⟩:=hD xs hx1.1 j hj
  have hj':=hel j hj
  rw [hy,show Tryz.prog.cellsOf 5=1 by kernel_rfl] at hj'
  obtain ⟨k,e1,e2,_⟩:=DataW.trod_int Tryz.underlying5 hj'
  have hk:k=Lib.deBruijn64tab.getD j 0:=by
    rw [e2] at hy1;simpa using hy1
  subst hk
  have:=World.var?_cell hg0 hv0 j
  rw [this]
  rw [Nat.mul_one] at e1
  have e3:(cs0.toList.drop j)[0]?=some (.int .u8 (Lib.deBruijn64tab.getD j 0)):=by
    have:((cs0.toList.drop j).take 1)[0]?=some (.int .u8 (Lib.deBruijn64tab.getD j 0)):=by rw [e1];rfl
    rwa [List.getElem?_take,if_pos (by omega)] at this
  rw [List.getElem?_drop,Nat.add_zero] at e3
  simpa using e3
theorem tab_of{W:World}{D:DataW Unit}(hD:∀ ys:List (DataW Unit×List MemPlace),D = .agg (ys.map (·.1))→∀ j,j<64→∃ y,ys[j]?=some y∧y.1 = .lit (.int .u8 (Lib.deBruijn64tab.getD j 0)))(hh:D.handleName?.isNone=true)
    (h : laidMetH Tryz.prog [("math/bits.deBruijn64tab", D)] W) : Tab W := by
  rw [MakeChecks.laidMetH_plain _ _ _ (by simp [hh])] at h
  obtain ⟨ps,⟨g0,t0,cs0,f0,p0,q0,hg0,ht0,hv0,hd0,_⟩,_⟩:=h
  exact ⟨tabA_of hD hg0 ht0 hv0 hd0,trivial⟩
end Go.Proofs.YtbmolijeikedcaaGreatDoor
