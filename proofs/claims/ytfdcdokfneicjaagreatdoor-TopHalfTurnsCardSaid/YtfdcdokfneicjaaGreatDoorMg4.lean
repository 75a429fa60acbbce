/-
Package reduce.
Package reduce: Turns, Scale, Split.
Package ulpref09: pi; ulpref14: pi.
Package ulpref14.
When right angles are told apart: plain.
The reckoning again, so that the kernel can do it: the same functions by recursion on a number of rounds.
Package ulplaw14.
Package ulplaw13: the words.
Answers of sines and cosines against the document's. Plain.
Package ulplaw13: the answers that the document gives; SincoreEncloses.
Sine and cosine: the circle, the mirror, bounds. Plain.
Package ulplaw14: ReduceOdd.
Package ulplaw14: ReduceBack, ReduceNear.
Package ulplaw14: ReduceNear.
Package ulplaw14: ReduceAngles.
ulpref04.Copy, by hand: a copy of a number's words.
Package ulplaw14: ReduceQuarter.
Package ulplaw14: ReduceQuarter's word.
Package ulplaw13: circle, mirror, bounds: the laws' words.
The sine rises, the cosine falls with the amount: partial sum by partial sum. Plain.
Sines and cosines of all numbers of an interval: near the document's, and right. Plain.
Package ulplaw13: near; SincoreBoth.
Sines and cosines over a narrow interval: how narrow. Plain.
Sines and cosines of all numbers of a narrow interval: narrow. Plain.
Sines and cosines of all numbers of an interval, enclosed; the turned pair; what is asked of an answer. Plain.
Of half a turned pair: what becomes of it, cut to the bits that are asked; quotients. Plain.
Quotients of narrow intervals; how great the sines of what is not too near 0 are. Plain.
The angle of so many half turns. Plain.
Sine and cosine of so many half turns, turned: they meet the document's. Plain.
Tangents: what the program's quotient is, and that it meets the document's. Plain.
The document's sine and cosine of half turns keep off 0; quotients of 0. Plain.
What TrigpiBoth asks. Plain.
What TrigpiEncloses asks, behind the reading of a binary64 number. Plain.
What is left of a binary64 number behind half turns has room, and is not too near 0. Plain.
The turned pair: on the circle, mirrored, half a turn on. Plain.
What the program and the document leave of one number behind right angles: as many, and a shared rational. Plain.
Sine and cosine of what is left behind right angles. Plain.
Circle, mirror, half a turn: what ulplaw18 asks without the document. Plain.
The tangent on the other side of 0. Plain.
What is left behind right angles of a number that is not 0: it is not 0, and how great it is. Plain.
How sine, cosine and inverse tangent change from number to number; the tangent of the inverse tangent. Plain.
Sequences of angles: sums of them, the sine and the cosine of a quarter and of half of pi. Plain.
Sequences of angles that lie in an interval in the end: what holds of all numbers of the interval holds of them; the pair of half turns. Plain.
Sine and cosine of a sum of so many half turns, turned. Plain.
Binary64 numbers, taken apart: dyad.From, ulpref04.From, bits.Neg.
What the program leaves behind right angles encloses a sequence of angles; its pair of a binary64; what TrigEncloses asks. Plain.
Package trigpi: the turned pairs.
Package trigpi: of, Both, Enclose.
Package ulpref18.
Package ulplaw18: the answers that the document gives; TrigpiEncloses, TrigpiBoth.
Package trig.
The program's and the document's pair of a binary64; what TrigEncloses asks. Plain.
Packages trig, ulpref17: Both, Enclose; ulplaw17: free, like, sound.
Package ulpref17; ulplaw17: free, like; TrigEncloses behind lives.
Package ulplaw17: free, like, lives; TrigEncloses.
ulplaw17: sound; Touch and Lies of ulpref06; TrigCircle, TrigMirror.
ulplaw17: TrigCircle.
Package ulplaw18: statements without the document: their helpers and runs.
ulplaw17: TrigMirror.
ulplaw17: TrigBounds, TrigBoth: their runs.
ulplaw17: TrigBoth.
ulplaw17: TrigBounds; ulpref01.Less.
ulplaw17: TrigBounds.
ulplaw17: TrigBounds: the statement.
ulplaw17: TrigTwice: its run.
ulplaw17: sines and cosines of sums of sequences of angles, turned. Plain.
Package ulptop: what it begins with, sound, sounds; TopReduced: runs.
TopReduced: an angle from -1 to 1 has the sine and the cosine of what is left of it, turned. Plain.
TopReduced: its word.
Sines and cosines differ by no more than the angles. Plain.
Package ulplaw18: statements of dyadic numbers of half turns.
TopHalfTurns: runs.
TopHalfTurns: the angle; what is told of it. Plain.
-/
import Derived.Test.YtfdcdokfneicjaaGreatDoorMg3
import Derived.Test.YtfdcdokfneicjaaGreatDoorMg2
import Derived.Test.YtfdcdokfneicjaaGreatDoorMg0
namespace Go.Proofs.YtfdcdokfneicjaaGreatDoor
open Go.RowKit
def tyFI:TyRow:=⟨61,1,false,[.lit .nilFunc],.func⟩
def tys6:List TyRow:=tyFI :: tys5
theorem tys6_ok:RowsOk Tryz.prog tys6:=⟨by kernel_rfl,tys5_ok⟩
def qPiW(co:Int→Vx×Int):Spec:=specK [.i .i64] fun (w:Int)=>(none,reT (co w))
def sQp(co:Int→Vx×Int):List (FuncId×Spec):=[(18,specK [.i .u8,.i .i64] fun (k:Int) (p:Int)=>(some (k=1),reT (co p)))]
theorem sQp_ok:SpecsOk Tryz.prog (sQp constR):=⟨cConst_ok,trivial⟩
theorem qPi_vc(w:Int)(co:Int→Vx×Int)(Q:Tv→Prop):execF ⟨tys6,sQp co⟩ (fun _=>none) 0 Tryz.f34 [.one (.int .i64 w)] Q=((1:Int)=(1:Int)∧Q (Tv.tup [Sv.agg (ivL false (co w).fst),Sv.one (At.int .i64 (co w).snd)])):=by kernel_rfl
theorem qPi_ok:SpecOk Tryz.prog 34 (qPiW constR) :=
  specK_ok (envOk tys6_ok sQp_ok) mixed Tryz.func34 rfl (by decide) (by decide) fun (w:Int) _ _=>⟨fun _=>none,0,(qPi_vc w constR _).mpr ⟨rfl,rfl⟩⟩
def sRed:List (FuncId×Spec):=[(76,rNear),(80,rBy4),(90,rInt)] ++ sRaw8
theorem sRed_ok:SpecsOk Tryz.prog sRed:=⟨rNear_ok,rBy4_ok,rInt_ok,sRaw8_ok⟩
def halfP(w:Int):Vx:=scaleV (constPi w) (-1)
theorem halfP_hf{w:Int}(w0:8≤w)(w1:w≤65000):HfIv (p2 (-3-w)/2) (halfP w):=(constPi_iv w0 w1).half
theorem blen32{a w:Int}(w0:0≤w)(h:a<64*2^w.toNat):(blen a:Int)≤w+6:=by
  have:blen a≤w.toNat+6:=blen_le (by rw [Int.pow_add];have:(2:Int)^6=64:=by decide
                                     rw [this];omega)
  omega
theorem pow_ge{w:Int}(w0:64≤w)(w1:w≤65536):80*w+320≤2^w.toNat:=by
  obtain ⟨k,hk⟩:∃ k:Nat,w=k+32:=⟨(w-32).toNat,by omega⟩
  have pb:=pow_big k
  rw [show w.toNat=k+32 by omega];omega
theorem ivF_bd{z:Fx}{w:Int}(w0:64≤w)(w1:w≤65536)(a0:0≤z.a)(e0:0≤z.e)(e1:z.e≤80*w+320)(a1:z.a≤32*2^w.toNat):(ivF z w).Bd w 7:=by
  have g:=pow_ge w0 w1
  have b1:=blen32 (a:=z.a) (w:=w) (by omega) (by omega)
  have b2:=blen32 (a:=z.a+z.e) (w:=w) (by omega) (by omega)
  exact ⟨mkD_bd a0 (by omega) (by omega) (by omega) (by omega),mkD_bd (by omega) (by omega) (by omega) (by omega) (by omega)⟩
theorem Vx.Bd.scale1{L T:Int}{v:Vx}(hv:v.P)(h:v.Bd L T):(scaleV v (-1)).Bd (L+1) T:=⟨h.1.shift hv.1 (by have:=h.1.l0;omega) h.1.t0 (by omega) (by omega),h.2.shift hv.2 (by have:=h.1.l0;omega) h.1.t0 (by omega) (by omega)⟩
theorem constPi_bd{w:Int}(w0:8≤w)(w1:w≤16384):(constPi w).Bd (w+64) 8:=by
  obtain ⟨a0,e0,e1,a1⟩:=piF_e (w:=w+64) (by omega) (by omega)
  exact Vx.Bd.trim (encPi_iv w0 (by omega)).p (by omega) (ivF_bd (by omega) (by omega) a0 e0 e1 a1)
theorem halfP_bd{w:Int}(w0:8≤w)(w1:w≤16384):(halfP w).Bd (w+65) 8:=Vx.Bd.mono ((constPi_bd w0 w1).scale1 (constPi_iv w0 (show w≤65000 by omega)).p) (by omega) (by omega)
def tryT(r:Int×Vx×Bool):Tv:=.tup [.one (.int .i64 r.1),.agg (ivL true r.2.1),.one (.bool r.2.2)]
def inX(x:Dx):Prop:=x.Bd 32768 98304∧x.rv<p2 (1024:Nat)∧-(p2 (1024:Nat))<x.rv
def wTry(pr:Dx→Int→Int→Prop)(g:Dx→Int→Int→Int×Vx×Bool):Spec:=fun l=>match l with
  | [.agg [.bool ng,.words false xs,.int .i64 e],.one (.int .i64 p),.one (.int .i64 w),.one (.fn n [])]=>(match Nat.beq n 34 with
    | true=>(some (pr ⟨ng,xs,e⟩ p w),tryT (g ⟨ng,xs,e⟩ p w))
    | false=>noSpec)
  | _=>noSpec
theorem qTry_vc(x:Dx)(p w:Int)(co:Int→Vx×Int)(Q:Tv→Prop):execF ⟨tys6,(34,qPiW co) :: sRed⟩ (fun _=>none) 0 Tryz.f35 [.agg (dyL false x),.one (.int .i64 p),.one (.int .i64 w),.one (.fn 34 [])] Q=(br (neI (co w).snd 0) (Q (Tv.tup [Sv.one (At.int .i64 0),Sv.agg [At.bool false,At.words true [],At.int .i64 0,At.bool false,At.words true [],At.int .i64 0],Sv.one (At.bool false)])) ((eB 2305843009213693952 (co w).fst.lo∧eB 2305843009213693952 (co w).fst.hi∧(-2305843009213693952:Int)≤(-1)∧(-1:Int)≤2305843009213693952)∧eB 4611686018427387904 x∧(Vx.Sm 67108864 (pointV x)∧Vx.Sm 67108864 (scaleV (co w).fst (-1))∧Dx.m (scaleV (co w).fst (-1)).lo≠0∧Dx.m (scaleV (co w).fst (-1)).hi≠0∧(0:Int)≤w∧w≤67108864)∧true=true∧Dx.Sm 268435456 (divV (pointV x) (scaleV (co w).fst (-1)) w).lo∧Dx.Sm 268435456 (divV (pointV x) (scaleV (co w).fst (-1)) w).hi∧(Dx.Sm 68719476736 (nearD (divV (pointV x) (scaleV (co w).fst (-1)) w).lo)∧Dx.Sm 68719476736 (nearD (divV (pointV x) (scaleV (co w).fst (-1)) w).hi))∧true=true∧br (neI (cmpD (nearD (divV (pointV x) (scaleV (co w).fst (-1)) w).lo) (nearD (divV (pointV x) (scaleV (co w).fst (-1)) w).hi)) 0) (Q (Tv.tup [Sv.one (At.int .i64 0),Sv.agg [At.bool false,At.words true [],At.int .i64 0,At.bool false,At.words true [],At.int .i64 0],Sv.one (At.bool false)])) (eB 4611686018427387904 x∧eB 4611686018427387904 (nearD (divV (pointV x) (scaleV (co w).fst (-1)) w).lo)∧inR (w+64)∧(Vx.Sm 268435456 (pointV (nearD (divV (pointV x) (scaleV (co w).fst (-1)) w).lo))∧Vx.Sm 268435456 (scaleV (co w).fst (-1))∧(0:Int)≤w+64∧w+64≤1099511627776)∧(Vx.Sm 134217728 (pointV x)∧Vx.Sm 134217728 (timesV (pointV (nearD (divV (pointV x) (scaleV (co w).fst (-1)) w).lo)) (scaleV (co w).fst (-1)) (w+64))∧(0:Int)≤w∧w≤1099511627776)∧true=true∧(OneF (nearD (divV (pointV x) (scaleV (co w).fst (-1)) w).lo)∧(0:Int)≤(nearD (divV (pointV x) (scaleV (co w).fst (-1)) w).lo).e∧(nearD (divV (pointV x) (scaleV (co w).fst (-1)) w).lo).e≤4611686018427387904)∧(Vx.Sm 67108864 (lessV (pointV x) (timesV (pointV (nearD (divV (pointV x) (scaleV (co w).fst (-1)) w).lo)) (scaleV (co w).fst (-1)) (w+64)) w)∧(0:Int)≤p)∧true=true∧Q (Tv.tup [Sv.one (At.int .i64 (by4I (nearD (divV (pointV x) (scaleV (co w).fst (-1)) w).lo))),Sv.agg (ivL true (lessV (pointV x) (timesV (pointV (nearD (divV (pointV x) (scaleV (co w).fst (-1)) w).lo)) (scaleV (co w).fst (-1)) (w+64)) w)),Sv.one (At.bool (narrowV (lessV (pointV x) (timesV (pointV (nearD (divV (pointV x) (scaleV (co w).fst (-1)) w).lo)) (scaleV (co w).fst (-1)) (w+64)) w) p))])))):=by kernel_rfl
def preTry(x:Dx)(p w:Int):Prop:=inX x∧8≤w∧w≤8192∧0≤p
theorem sTry_ok:SpecsOk Tryz.prog ((34,qPiW constR) :: sRed):=⟨qPi_ok,sRed_ok⟩
theorem qTry_ok:SpecOk Tryz.prog 35 (wTry preTry (fun x p w=>tryW (halfP w) x p w)) :=
  specOk_pat (envOk tys6_ok sTry_ok) mixed Tryz.func35 rfl (by decide) 4 (by decide) fun l p t hwf e hp=>by
    unfold wTry at e
    split at e
    · rename_i ng xs ee p w n
      split at e
      rotate_left
      · cases e;exact hp.elim
      rename_i hb
      obtain rfl:=Nat.eq_of_beq_eq_true hb
      cases e
      obtain ⟨⟨bx,x1,x2⟩,w0,w1,p0⟩:preTry ⟨ng,xs,ee⟩ p w:=hp
      have hx:0≤Dx.m ⟨ng,xs,ee⟩:=val_nonneg hwf.1.2.1.1
      refine ⟨Nat.le_refl 4,fun _=>none,0,(qTry_vc ⟨ng,xs,ee⟩ p w constR _).mpr ?_⟩
      have ec:constR w=(constPi w,0):=by unfold constR;rw [if_pos ⟨w0,w1⟩]
      rw [ec]
      generalize (⟨ng,xs,ee⟩:Dx)=x at *
      have hf:=halfP_hf w0 (show w≤65000 by omega)
      have hb:=halfP_bd w0 (show w≤16384 by omega)
      have cs:=right_sm (constPi_right w0 (show w≤16384 by omega))
      refine br_intro (fun h=>by cases h) fun _=>?_
      show (eB _ (constPi w).lo∧eB _ (constPi w).hi∧_∧_)∧_∧(_∧Vx.Sm _ (halfP w)∧Dx.m (halfP w).lo≠0∧Dx.m (halfP w).hi≠0∧_∧_)∧_∧Dx.Sm _ (quoW (halfP w) x w).lo∧Dx.Sm _ (quoW (halfP w) x w).hi∧(Dx.Sm _ (nW (halfP w) x w)∧Dx.Sm _ (nearD (quoW (halfP w) x w).hi))∧_ ∧
        br (!sureW (halfP w) x w) (tryT (0,zeroIv,false)=tryT (tryW (halfP w) x p w)∨fgT (tryT (0,zeroIv,false))=tryT (tryW (halfP w) x p w)) (_∧eB _ (nW (halfP w) x w)∧_∧(Vx.Sm _ (pointV (nW (halfP w) x w))∧Vx.Sm _ (halfP w)∧_∧_)∧(_∧Vx.Sm _ (timesV (pointV (nW (halfP w) x w)) (halfP w) (w+64))∧_∧_)∧_∧(OneF (nW (halfP w) x w)∧0≤(nW (halfP w) x w).e∧(nW (halfP w) x w).e≤4611686018427387904)∧(Vx.Sm _ (restW (halfP w) x w)∧_)∧_ ∧
          (tryT (by4I (nW (halfP w) x w),restW (halfP w) x w,narrowV (restW (halfP w) x w) p)=tryT (tryW (halfP w) x p w)∨fgT (tryT (by4I (nW (halfP w) x w),restW (halfP w) x w,narrowV (restW (halfP w) x w) p))=tryT (tryW (halfP w) x p w)))
      generalize halfP w=h at *
      have sx:=bx.sm (N:=131072) (by omega)
      have hs:=hb.sm (N:=16384) (by omega)
      have q:=quoW_sm (w:=w) hx hf.p sx (hs.mono (by omega)) (by omega) (by omega)
      have sn:=nW_sm hf hx (w:=w) (by omega) x1 x2
      have np:0≤(nW h x w).m:=nearD_p
      have bn:(nW h x w).Bd 0 2051:=⟨by omega,by omega,nearD_e,by have:=sn.1;have:=sn.2.2;omega⟩
      have z1:=bx.point hx
      have zn:=bn.point np
      have zt:(timesV (pointV (nW h x w)) h (w+64)).Bd (0+(w+65)) (2051+8+1):=zn.times (pointV_p _) hf.p (by omega) hb
      have zr:(restW h x w).Bd 32768 98306:=z1.less (pointV_p x) (trimV_p _ _) (by omega) (zt.mono (by omega) (by omega))
      have r1:Dx.rv h.lo≠0:=by have:=hf.lo;grind
      have r2:Dx.rv h.hi≠0:=by have:=hf.lo;have:=hf.le;grind
      refine ⟨⟨cs.1.eB (by omega),cs.2.eB (by omega),by omega,by omega⟩,sx.eB (by omega),⟨z1.sm (by omega),hs.mono (by omega),rv_ne r1,rv_ne r2,by omega,by omega⟩,rfl,q.1.mono (by omega),q.2.mono (by omega),⟨sn.mono (by omega),(nearD_sm (divV_p _ _ _).2 q.2 (by omega)).mono (by omega)⟩,rfl,br_intro (fun hb=>.inl ?_) fun hb=>⟨sx.eB (by omega),sn.eB (by omega),⟨by omega,by omega⟩,⟨zn.sm (by omega),hs.mono (by omega),by omega,by omega⟩,⟨z1.sm (by omega),zt.sm (by omega),by omega,by omega⟩,rfl,⟨nearD_f,nearD_e,by have:=sn.2.2;omega⟩,⟨zr.sm (by omega),p0⟩,rfl,.inl ?_⟩⟩
      · rw [tryW,if_neg (by rw [not_true hb];simp)]
      · rw [tryW,if_pos (not_false' hb)]
    · cases e;exact hp.elim
def dyX(b:Nat)(nw:Bool)(x:Dx):List (Nat×Nat×At):=[(b,0,.bool x.neg),(b,1,.words nw x.xs),(b,2,.int .i64 x.e)]
def zvX(b:Nat):List (Nat×Nat×At):=[(b,0,.bool false),(b,1,.words true []),(b,2,.int .i64 0),(b,3,.bool false),(b,4,.words true []),(b,5,.int .i64 0)]
def quK:LKeep:=⟨[1,2,5,7,8],[(0,3),(2,6)],3⟩
def quSt(x:Dx)(p:Int)(a:Nat×Int):List (Nat×Tv)×List (Nat×Nat×At) :=
  ([(1,iT p),(2,.sv (.one (.ptr 0 0))),(5,.sv (.one (.ptr 2 0))),(7,.sv (.one (.fn 34 []))),(8,iT a.2)],dyX 0 true x ++ zvX 2)
def quInv(x:Dx)(p:Int)(P:Nat×Int→Prop):Nat→Option LInv:=invAt 11 (.rel quK (Nat×Int) (quSt x p) P (fun a=>a.1))
theorem qQu_vc(x:Dx)(p:Int)(P:Nat×Int→Prop)(pr:Dx→Int→Int→Prop)(g:Dx→Int→Int→Int×Vx×Bool)(Q:Tv→Prop):execF ⟨tys6,(35,wTry pr g) :: sRed⟩ (quInv (oneD x) p P) 0 Tryz.f6 [.agg (dyL false x),.one (.int .i64 p)] Q=(br (!Dx.fitsB x) (Q (Tv.tup [Sv.one (At.int .i64 0),Sv.agg [At.bool false,At.words true [],At.int .i64 0,At.bool false,At.words true [],At.int .i64 0],Sv.one (At.int .i64 2)])) (br (ltI p 8) (Q (Tv.tup [Sv.one (At.int .i64 0),Sv.agg [At.bool false,At.words true [],At.int .i64 0,At.bool false,At.words true [],At.int .i64 0],Sv.one (At.int .i64 2)])) (br (ltI 3968 p) (Q (Tv.tup [Sv.one (At.int .i64 0),Sv.agg [At.bool false,At.words true [],At.int .i64 0,At.bool false,At.words true [],At.int .i64 0],Sv.one (At.int .i64 2)])) (((-4611686018427387904:Int)≤x.e∧x.e≤4611686018427387904)∧br (Dx.zeroB (oneD x)) (Q (Tv.tup [Sv.one (At.int .i64 0),Sv.agg [At.bool false,At.words true [],At.int .i64 0,At.bool false,At.words true [],At.int .i64 0],Sv.one (At.int .i64 0)])) (((-2305843009213693952:Int)≤(oneD x).e∧(oneD x).e≤2305843009213693952)∧br (leI 1024 ((oneD x).e+(↑(blen (Dx.m (oneD x))):Int)-1)) (Q (Tv.tup [Sv.one (At.int .i64 0),Sv.agg [At.bool false,At.words true [],At.int .i64 0,At.bool false,At.words true [],At.int .i64 0],Sv.one (At.int .i64 3)])) (((-2305843009213693952:Int)≤(oneD x).e∧(oneD x).e≤2305843009213693952)∧inR (maxI ((oneD x).e+(↑(blen (Dx.m (oneD x))):Int)-1) 0+p)∧inR (maxI ((oneD x).e+(↑(blen (Dx.m (oneD x))):Int)-1) 0+p+64)∧true=true∧(∃ (a:Nat×Int),P a∧Sg.mk [(1,iT p),(2,Tv.sv (Sv.one (At.ptr 0 0))),(5,Tv.sv (Sv.one (At.ptr ((0:Nat)+2) 0))),(7,Tv.sv (Sv.one (At.fn 34 []))),(8,iT (maxI ((oneD x).e+(↑(blen (Dx.m (oneD x))):Int)-1) 0+p+64))] [(0,0,At.bool (oneD x).neg),(0,1,At.words true (oneD x).xs),(0,2,At.int .i64 (oneD x).e),(2,0,At.bool false),(2,1,At.words true []),(2,2,At.int .i64 0),(2,3,At.bool false),(2,4,At.words true []),(2,5,At.int .i64 0)] 3=LKeep.at quK (quSt (oneD x) p a))∧∀ (a:Nat×Int),P a→pr (oneD x) p (minI a.snd 8192)∧br (g (oneD x) p (minI a.snd 8192)).snd.snd (br (rightV (g (oneD x) p (minI a.snd 8192)).snd.fst) (true=true∧Q (Tv.tup [Sv.one (At.int .i64 (g (oneD x) p (minI a.snd 8192)).fst),Sv.agg (ivL true (g (oneD x) p (minI a.snd 8192)).snd.fst),Sv.one (At.int .i64 0)])) (br (eqI (minI a.snd 8192) 8192) (Q (Tv.tup [Sv.one (At.int .i64 0),Sv.agg [At.bool false,At.words true [],At.int .i64 0,At.bool false,At.words true [],At.int .i64 0],Sv.one (At.int .i64 6)])) (inR ((2:Int)*minI a.snd 8192)∧true=true∧∃ (a':Nat×Int),P a'∧Sg.mk [(1,iT p),(2,Tv.sv (Sv.one (At.ptr 0 0))),(5,Tv.sv (Sv.one (At.ptr 2 0))),(7,Tv.sv (Sv.one (At.fn 34 []))),(8,iT ((2:Int)*minI a.snd 8192))] [(0,0,At.bool (oneD x).neg),(0,1,At.words true (oneD x).xs),(0,2,At.int .i64 (oneD x).e),(2,0,At.bool false),(2,1,At.words true []),(2,2,At.int .i64 0),(2,3,At.bool false),(2,4,At.words true []),(2,5,At.int .i64 0)] 3=LKeep.at quK (quSt (oneD x) p a')∧a'.fst<a.fst))) (br (eqI (minI a.snd 8192) 8192) (Q (Tv.tup [Sv.one (At.int .i64 0),Sv.agg [At.bool false,At.words true [],At.int .i64 0,At.bool false,At.words true [],At.int .i64 0],Sv.one (At.int .i64 6)])) (inR ((2:Int)*minI a.snd 8192)∧true=true∧∃ (a':Nat×Int),P a'∧Sg.mk [(1,iT p),(2,Tv.sv (Sv.one (At.ptr 0 0))),(5,Tv.sv (Sv.one (At.ptr 2 0))),(7,Tv.sv (Sv.one (At.fn 34 []))),(8,iT ((2:Int)*minI a.snd 8192))] [(0,0,At.bool (oneD x).neg),(0,1,At.words true (oneD x).xs),(0,2,At.int .i64 (oneD x).e),(2,0,At.bool false),(2,1,At.words true []),(2,2,At.int .i64 0),(2,3,At.bool false),(2,4,At.words true []),(2,5,At.int .i64 0)] 3=LKeep.at quK (quSt (oneD x) p a')∧a'.fst<a.fst)))))))):=by kernel_rfl
def topD(x:Dx):Int:=x.e+blen x.m-1
def tryP(x:Dx)(p w:Int):Int×Vx×Bool:=tryW (halfP w) x p w
def okW(x:Dx)(p w:Int):Bool:=(tryP x p w).2.2 && rightV (tryP x p w).2.1
def quarL(x:Dx)(p:Int):Nat→Int→Int×Vx×Int
  | 0,_=>(0,zeroIv,6)
  | n+1,w=>if okW x p (min w 8192)=true then ((tryP x p (min w 8192)).1,(tryP x p (min w 8192)).2.1,0) else if min w 8192=8192 then (0,zeroIv,6) else quarL x p n (2*min w 8192)
def quarR(x:Dx)(p:Int):Int×Vx×Int :=
  if x.fitsB=true∧8≤p∧p≤3968 then (if (oneD x).m=0 then (0,zeroIv,0) else if 1024≤topD (oneD x) then (0,zeroIv,3) else quarL (oneD x) p 9 (max (topD (oneD x)) 0+p+64)) else (0,zeroIv,2)
def quT(r:Int×Vx×Int):Tv:=.tup [.one (.int .i64 r.1),.agg (ivL false r.2.1),.one (.int .i64 r.2.2)]
def qQu:Spec:=specK [.d,.i .i64] fun (x:Dx) (p:Int)=>(none,quT (quarR x p))
theorem top_lt{x:Dx}(hx:0≤x.m)(h:topD x<1024):x.rv<p2 (1024:Nat)∧-(p2 (1024:Nat))<x.rv:=by
  have q:=p2_pos ((1024:Nat):Int)
  have a:=amt_lt (m:=x.m) (e:=x.e)
  have l:=p2_le (show x.e+(blen x.m:Int)≤((1024:Nat):Int) by unfold topD at h;omega)
  obtain ⟨r1,r2⟩:=rv_amt hx
  rcases (show 0≤x.rv∨x.rv≤0 by grind) with s | s
  · have:=r1 s
    generalize p2 ((1024:Nat):Int)=Q at *
    constructor<;>grind
  · have:=r2 s
    generalize p2 ((1024:Nat):Int)=Q at *
    constructor<;>grind
theorem sQu_ok:SpecsOk Tryz.prog ((35,wTry preTry (fun x p w=>tryW (halfP w) x p w)) :: sRed):=⟨qTry_ok,sRed_ok⟩
theorem qQu_ok:SpecOk Tryz.prog 6 qQu :=
  specKW_ok (envOk tys6_ok sQu_ok) mixed Tryz.func6 rfl (by decide) (by decide) fun (x:Dx) hxw (p:Int) _ _=>by
    have hx:=Dx.Wf.m0 hxw
    obtain ⟨R,hR⟩:∃ R,R=quarL (oneD x) p 9 (max (topD (oneD x)) 0+p+64):=⟨_,rfl⟩
    refine ⟨quInv (oneD x) p (fun a=>quarL (oneD x) p a.1 a.2=R∧1≤a.1∧8≤a.2∧a.2≤16384∧16384≤a.2*2^a.1),0,?_⟩
    show execF _ _ _ _ _ (fun t=>t=quT (quarR x p)∨fgT t=quT (quarR x p))
    refine (qQu_vc x p _ preTry (fun x p w=>tryW (halfP w) x p w) _).mpr (br_intro (fun h=>.inr ?_) fun h=>br_intro (fun h1=>.inr ?_) fun h1=>br_intro (fun h2=>.inr ?_) fun h2=>?_)
    · rw [quarR,if_neg (by rw [not_true h];simp)];rfl
    · rw [quarR,if_neg (by have:=ltI_true.1 h1;omega)];rfl
    · rw [quarR,if_neg (by have:=ltI_true.1 h2;omega)];rfl
    have h:=not_false' h
    have h1:=ltI_false.1 h1
    have h2:=ltI_false.1 h2
    have bx:=(fits_bd h).one hx
    have xe:=fits_e h
    have y0:=oneD_p (d:=x)
    rw [quarR,if_pos ⟨h,by omega,by omega⟩]
    refine ⟨⟨by omega,by omega⟩,br_intro (fun h3=>.inr ?_) fun h3=>?_⟩
    · rw [if_pos (zeroB_true.1 h3)];rfl
    rw [if_neg (zeroB_false.1 h3)]
    have te:(oneD x).e+(blen (oneD x).m:Int)-1=topD (oneD x):=rfl
    have b1:=bx.lo
    have b2:=bx.hi
    have bp:=blen_pos (show 0<(oneD x).m by have:=zeroB_false.1 h3;omega)
    rw [te]
    refine ⟨⟨by omega,by omega⟩,br_intro (fun h4=>.inr ?_) fun h4=>?_⟩
    · rw [if_pos (leI_true.1 h4)];rfl
    have h4:=leI_false.1 h4
    rw [if_neg h4,maxI_eq,←hR]
    obtain ⟨t1,t2⟩:=top_lt y0 (by omega)
    refine ⟨⟨by omega,by omega⟩,⟨by omega,by omega⟩,⟨by omega,by omega⟩,rfl,⟨(9,max (topD (oneD x)) 0+p+64),⟨hR.symm,by omega,by omega,by omega,by show 16384≤(max (topD (oneD x)) 0+p+64)*2^9;omega⟩,rfl⟩,fun a ha=>?_⟩
    obtain ⟨n,w⟩:=a
    obtain ⟨e,n1,w0,w1,w2⟩:quarL (oneD x) p n w=R∧1≤n∧8≤w∧w≤16384∧16384≤w*2^n:=ha
    obtain ⟨m,rfl⟩:∃ m,n=m+1:=⟨n-1,by omega⟩
    rw [quarL] at e
    show preTry (oneD x) p (minI w 8192)∧br (tryP (oneD x) p (minI w 8192)).2.2 (br (rightV (tryP (oneD x) p (minI w 8192)).2.1) _ _) _
    rw [minI_eq]
    refine ⟨⟨⟨bx,t1,t2⟩,by omega,by omega,by omega⟩,?_⟩
    have fin:okW (oneD x) p (min w 8192)=false→min w 8192≠8192→inR (2*min w 8192)∧true=true∧∃ a':Nat×Int,(quarL (oneD x) p a'.1 a'.2=R∧1≤a'.1∧8≤a'.2∧a'.2≤16384∧16384≤a'.2*2^a'.1)∧quK.at (quSt (oneD x) p (0,2*min w 8192))=quK.at (quSt (oneD x) p a')∧a'.1<m+1:=fun ok hw=>by
      rw [if_neg (by rw [ok];simp),if_neg hw] at e
      have hm:min w 8192=w:=by omega
      rw [hm] at e ⊢
      rw [Int.pow_succ] at w2
      have m1:1≤m:=by
        refine Nat.pos_of_ne_zero fun hm0=>?_
        rw [hm0,Int.pow_zero] at w2;omega
      refine ⟨⟨by omega,by omega⟩,rfl,(m,2*w),⟨e,m1,by omega,by omega,?_⟩,rfl,Nat.lt_succ_self _⟩
      show 16384≤2*w*2^m
      rw [Int.mul_comm (2^m) 2,←Int.mul_assoc,Int.mul_comm w 2] at w2;exact w2
    have hard:okW (oneD x) p (min w 8192)=false→min w 8192=8192→R=(0,zeroIv,6):=fun ok hw=>by
      rw [if_neg (by rw [ok];simp),if_pos hw] at e
      exact e.symm
    refine br_intro (fun h5=>br_intro (fun h6=>⟨rfl,.inr ?_⟩) fun h6=>?_) fun h5=>?_
    · rw [if_pos (by unfold okW;rw [h5,h6];rfl)] at e
      rw [←e];rfl
    · have ok:okW (oneD x) p (min w 8192)=false:=by unfold okW;rw [h6,Bool.and_false]
      exact br_intro (fun h7=>.inr (by rw [hard ok (eqI_true.1 h7)];rfl)) fun h7=>fin ok (eqI_false.1 h7)
    · have ok:okW (oneD x) p (min w 8192)=false:=by unfold okW;rw [h5,Bool.false_and]
      exact br_intro (fun h7=>.inr (by rw [hard ok (eqI_true.1 h7)];rfl)) fun h7=>fin ok (eqI_false.1 h7)
def zD0:Dx:=⟨false,[],0⟩
def turT(r:Int×Dx×Int):Tv:=.tup [.one (.int .i64 r.1),.agg (dyL false r.2.1),.one (.int .i64 r.2.2)]
def turN(y:Dx):Dx:=nearD (shiftD y 1)
def turX(y:Dx):Dx:=lessD y (shiftD (turN y) (-1))
def turR(x:Dx):Int×Dx×Int:=if x.fitsB=true then (if (oneD x).fitsB=true∧(turX (oneD x)).fitsB=true then (by4I (turN (oneD x)),turX (oneD x),0) else (0,zD0,3)) else (0,zD0,2)
theorem qTurns_vc(x:Dx)(Q:Tv→Prop):execF ⟨tys6,sRed⟩ (fun _=>none) 0 Tryz.f99 [.agg (dyL false x)] Q=(br (!Dx.fitsB x) (Q (Tv.tup [Sv.one (At.int .i64 0),Sv.agg [At.bool false,At.words true [],At.int .i64 0],Sv.one (At.int .i64 2)])) (((-4611686018427387904:Int)≤x.e∧x.e≤4611686018427387904)∧((-2305843009213693952:Int)≤(oneD x).e∧(oneD x).e≤2305843009213693952∧(-2305843009213693952:Int)≤1∧(1:Int)≤2305843009213693952)∧Dx.Sm 268435456 (shiftD (oneD x) 1)∧((-2305843009213693952:Int)≤(nearD (shiftD (oneD x) 1)).e∧(nearD (shiftD (oneD x) 1)).e≤2305843009213693952∧(-2305843009213693952:Int)≤(-1)∧(-1:Int)≤2305843009213693952)∧(Dx.Sm 34359738368 (oneD x)∧Dx.Sm 34359738368 (shiftD (nearD (shiftD (oneD x) 1)) (-1)))∧true=true∧br (!Dx.fitsB (oneD x)) (Q (Tv.tup [Sv.one (At.int .i64 0),Sv.agg [At.bool false,At.words true [],At.int .i64 0],Sv.one (At.int .i64 3)])) (br (!Dx.fitsB (lessD (oneD x) (shiftD (nearD (shiftD (oneD x) 1)) (-1)))) (Q (Tv.tup [Sv.one (At.int .i64 0),Sv.agg [At.bool false,At.words true [],At.int .i64 0],Sv.one (At.int .i64 3)])) ((OneF (nearD (shiftD (oneD x) 1))∧(0:Int)≤(nearD (shiftD (oneD x) 1)).e∧(nearD (shiftD (oneD x) 1)).e≤4611686018427387904)∧true=true∧Q (Tv.tup [Sv.one (At.int .i64 (by4I (nearD (shiftD (oneD x) 1)))),Sv.agg (dyL true (lessD (oneD x) (shiftD (nearD (shiftD (oneD x) 1)) (-1)))),Sv.one (At.int .i64 0)]))))):=by kernel_rfl
def qTurns:Spec:=specK [.d] fun (x:Dx)=>(none,turT (turR x))
theorem shift_bd{L T:Int}{d:Dx}(hd:0≤d.m)(h:d.Bd L T):(shiftD d 1).Bd L (T+1):=h.shift hd h.l0 (by have:=h.t0;omega) (by omega) (by omega)
theorem shift_bd'{L T:Int}{d:Dx}(hd:0≤d.m)(h:d.Bd L T):(shiftD d (-1)).Bd (L+1) T:=h.shift hd (by have:=h.l0;omega) h.t0 (by omega) (by omega)
theorem floor_bd{L T:Int}{d:Dx}(hd:0≤d.m)(h:d.Bd L T):(floorD d).Bd L (T+1):=by
  obtain ⟨l0,t0,a1,a2⟩:=h.one hd
  have m0:=oneD_p (d:=d)
  unfold floorD;split
  · exact ⟨l0,by omega,a1,by omega⟩
  · rename_i hn
    have p0:=two_pow_pos (-(oneD d).e).toNat
    have q0:0≤(oneD d).m/2^(-(oneD d).e).toNat:=Int.ediv_nonneg m0 (by omega)
    obtain ⟨N,hN⟩:∃ N:Nat,(N:Int)=T:=⟨T.toNat,by omega⟩
    have q1:(oneD d).m/2^(-(oneD d).e).toNat<2^N:=by
      refine Int.ediv_lt_of_lt_mul p0 ?_
      rw [←Int.pow_add]
      exact Int.lt_of_lt_of_le (blen_lt _) (two_pow_le (by omega))
    have hb:blen ((oneD d).m/2^(-(oneD d).e).toNat+if (lostB (oneD d).m (-(oneD d).e).toNat && (oneD d).neg)=true then 1 else 0)≤N+1:=blen_le (by
      rw [Int.pow_succ];have:=two_pow_pos N;split<;>omega)
    exact mkD_bd (by split<;>omega) l0 (by omega) (by omega) (by omega)
theorem near_bd{L T:Int}{d:Dx}(hd:0≤d.m)(h:d.Bd L T):(nearD d).Bd (L+1) (T+4):=by
  have hh:halfD.Bd (L+1) (T+1):=⟨by have:=h.l0;omega,by have:=h.t0;omega,by show -(L+1)≤-1;have:=h.l0;omega,by rw [halfD_m];have:=h.t0;show -1+((blen 1:Nat):Int)≤T+1;rw [show blen 1=1 by decide];omega⟩
  have a:(plusD d halfD).Bd (L+1) (T+1+1):=(h.mono (show L≤L+1 by omega) (show T≤T+1 by omega)).plus hd (by decide) hh
  have b:=floor_bd plusD_p a
  have c:(mkS 1 0).Bd (L+1) (T+1+1+1):=mkS_bd (by have:=h.l0;omega) (by have:=h.t0;omega) (by have:=h.l0;omega) (by have:=h.t0;show 0+((blen 1:Nat):Int)≤_;rw [show blen 1=1 by decide];omega)
  unfold nearD;split
  · exact (b.less floorD_p mkS_p c).mono (by omega) (by omega)
  · exact b.mono (by omega) (by omega)
theorem turX_bd{y:Dx}(hy:0≤y.m)(h:y.Bd 32768 98304):(turN y).Bd 32769 98309∧(turX y).Bd 32770 98310:=by
  have n:=near_bd shiftD_p (shift_bd hy h)
  exact ⟨n.mono (by omega) (by omega),((h.mono (by omega) (by omega)).less hy shiftD_p ((shift_bd' nearD_p n).mono (L':=32770) (T':=98309) (by omega) (by omega))).mono (by omega) (by omega)⟩
theorem qTurns_ok:SpecOk Tryz.prog 99 qTurns :=
  specKW_ok (envOk tys6_ok sRed_ok) mixed Tryz.func99 rfl (by decide) (by decide) fun (x:Dx) hxw _=>⟨fun _=>none,0,by
    have hx:=Dx.Wf.m0 hxw
    show execF _ _ _ _ _ (fun t=>t=turT (turR x)∨fgT t=turT (turR x))
    refine (qTurns_vc x _).mpr (br_intro (fun h=>.inr ?_) fun h=>?_)
    · rw [turR,if_neg (by rw [not_true h];simp)];rfl
    have h:=not_false' h
    have bx:=(fits_bd h).one hx
    have xe:=fits_e h
    obtain ⟨bn,br'⟩:=turX_bd oneD_p bx
    rw [turR,if_pos h]
    have b1:=bx.lo
    have b2:=bx.hi
    have n0:0≤(turN (oneD x)).e:=nearD_e
    have n1:=bn.hi
    refine ⟨⟨by omega,by omega⟩,⟨by omega,by omega,by omega,by omega⟩,(shift_bd oneD_p bx).sm (by omega),⟨show _≤(turN (oneD x)).e by omega,show (turN (oneD x)).e≤_ by omega,by omega,by omega⟩,⟨bx.sm (by omega),(shift_bd' nearD_p bn).sm (by omega)⟩,rfl,br_intro (fun h1=>.inr ?_) fun h1=>br_intro (fun h2=>.inr ?_) fun h2=>⟨⟨nearD_f,n0,show (turN (oneD x)).e≤_ by omega⟩,rfl,.inr ?_⟩⟩
    · rw [if_neg (by rw [not_true h1];simp)];rfl
    · rw [if_neg (by rw [show (turX (oneD x)).fitsB=false from not_true h2];simp)];rfl
    · rw [if_pos ⟨not_false' h1,not_false' h2⟩];rfl⟩
section
variable {n w:Int} (h:InvOk n w)
include h
end
theorem half_sizes{d:Rat}{h:Vx}(hf:HfIv d h){w:Int}(w0:8≤w)(w1:w≤65536)(hb:h.Bd (w+65) 8){x:Dx}(hx:0≤x.m)(hi:inX x) :
    (pointV x).Bd 32768 98304∧h.Sm 131072∧(quoW h x w).Sm 26214500∧(nW h x w).Bd 0 2051∧(timesV (pointV (nW h x w)) h (w+64)).Bd (w+65) 2060∧(restW h x w).Bd 65602 98306:=by
  obtain ⟨bx,x1,x2⟩:=hi
  have sx:=bx.sm (N:=131072) (by omega)
  have hs:=hb.sm (N:=131072) (by omega)
  have q:=quoW_sm (w:=w) hx hf.p sx (hs.mono (by omega)) (by omega) (by omega)
  have sn:=nW_sm hf hx (w:=w) (by omega) x1 x2
  have np:0≤(nW h x w).m:=nearD_p
  have bn:(nW h x w).Bd 0 2051:=⟨by omega,by omega,nearD_e,by have:=sn.1;have:=sn.2.2;omega⟩
  have z1:=bx.point hx
  have zn:=bn.point np
  have zt:(timesV (pointV (nW h x w)) h (w+64)).Bd (0+(w+65)) (2051+8+1):=zn.times (pointV_p _) hf.p (by omega) hb
  have zr:(restW h x w).Bd 65602 98306:=(z1.mono (L':=65602) (T':=98304) (by omega) (by omega)).less (pointV_p x) (trimV_p _ _) (by omega) (zt.mono (by omega) (by omega))
  exact ⟨z1,hs,⟨q.1.mono (by omega),q.2.mono (by omega)⟩,bn,zt.mono (by omega) (by omega),zr⟩
theorem inX_of{x:Dx}(hx:0≤x.m)(hf:x.fitsB=true)(ht:topD (oneD x)<1024):inX x:=by
  have t:=top_lt (x:=oneD x) oneD_p ht
  rw [rv_one hx] at t
  exact ⟨fits_bd hf,t.1,t.2⟩
theorem Dn.close{p:Int}{q r A:Rat}(h:Dn p q r)(hp:1≤p)(h1:-A≤q)(h2:q≤A):q-eps p*A≤r∧r≤q:=by
  have e0:=eps_pos p
  refine ⟨?_,h.2.1⟩
  rcases (show 0<q∨q=0∨q<0 by grind) with c | c | c
  · have r1:=(h.rel hp c).1
    have m:=rmL h2 (rlL e0)
    grind
  · subst c
    have:=h.2.2 0 (Rp.zero p) Rat.le_refl
    have m:=rmL h2 (rlL e0)
    grind
  · have r1:=h.neg.rel hp (show 0 < -q by grind)
    have m:=rmL (show -q≤A by grind) (rlL e0)
    grind
theorem Up.close{p:Int}{q r A:Rat}(h:Up p q r)(hp:1≤p)(h1:-A≤q)(h2:q≤A):q≤r∧r≤q+eps p*A:=by
  have:=h.neg.close hp (A:=A) (by grind) (by grind)
  constructor<;>grind
section
variable {d:Rat} {h:Vx} (k:HfIv d h) {x:Dx} (hx:0≤x.m) {w:Int} (hw:1≤w)
include k hx hw
end
def wsK:Nat→Int→List Int
  | 0,_=>[]
  | k+1,n=>if 0<n then (n % 18446744073709551616) :: wsK k (n/18446744073709551616) else []
theorem wsK_eq:∀ {k:Nat} {n:Int},n<2^k→ws n=wsK k n
  | 0,n,h=>by rw [ws_nonpos (by simp at h;omega)];rfl
  | k+1,n,h=>by
    unfold wsK
    by_cases hp:0<n
    · have p:=two_pow_pos k
      rw [Int.pow_succ] at h
      rw [ws_pos hp,if_pos hp,wsK_eq (k:=k) (by omega)]
    · rw [ws_nonpos (by omega),if_neg hp]
theorem ws_K(n:Int):ws n=wsK (blen n) n:=wsK_eq (blen_lt n)
def fitsK(d:Dx):Bool:=decide ((wsK (blen d.m) d.m).length≤1024) && decide (-32768≤d.e) && decide (d.e≤32768)
def rightK(v:Vx):Bool:=fitsK v.lo && (fitsK v.hi && decide (cmpD v.lo v.hi≤0))
theorem great_K(m:Int):(!greatB m)=decide ((wsK (blen m) m).length≤1024):=by
  unfold greatB;rw [←ws_K]
  by_cases h:(ws m).length≤1024
  · rw [decide_eq_true h,decide_eq_false (by omega)];rfl
  · rw [decide_eq_false h,decide_eq_true (by omega)];rfl
theorem fits_K(d:Dx):d.fitsB=fitsK d:=by unfold Dx.fitsB fitsK;rw [great_K]
theorem right_K(v:Vx):rightV v=rightK v:=by unfold rightV rightK;rw [fits_K,fits_K]
theorem p2_v:p2 0=1∧p2 1=2∧p2 (-1)=1/2∧p2 (-2)=1/4:=by decide +kernel
theorem tur_ok{x:Dx}(h:(turR x).2.2=0):x.fitsB=true∧(oneD x).fitsB=true∧(turX (oneD x)).fitsB=true∧turR x=(by4I (turN (oneD x)),turX (oneD x),0):=by
  unfold turR at h ⊢
  split at h
  · rename_i h1
    split at h
    · rename_i h2
      rw [if_pos h1,if_pos h2];exact ⟨h1,h2.1,h2.2,rfl⟩
    · cases h
  · cases h
theorem turN_near{y:Dx}(hy:0≤y.m):NearI (wholeS (turN y)) (2*y.rv):=by
  have:=nearD_whole (d:=shiftD y 1) shiftD_p
  rw [rv_shift hy,p2_v.2.1] at this
  have e:2*y.rv=y.rv*2:=by grind
  rw [e];exact this
theorem turX_rv{y:Dx}(hy:0≤y.m):(turX y).rv=y.rv-(wholeS (turN y):Rat)*(1/2):=by
  unfold turX
  rw [rv_less hy shiftD_p,rv_shift (d:=turN y) nearD_p,p2_v.2.2.1,wholeS_rv (d:=turN y) nearD_e]
def sndR(v:Vx)(w:Int):Vx×Int:=if w=0∧rightV v=false then (zeroIv,6) else (v,w)
def wTrue:Spec:=specK [] (none,bT true)
theorem zero_rv:(⟨false,[],0⟩:Dx).rv=0:=rv_zero rfl
theorem cutD_zero(p:Int)(up:Bool)(hp:0≤p):cutD ⟨false,[],0⟩ p up=⟨false,[],0⟩:=by
  have o:oneD ⟨false,[],0⟩=⟨false,[],0⟩:=(oneD_f (Int.le_refl _)).zero (zeroB_true.1 ((zeroB_rv oneD_p).2 ((rv_one (Int.le_refl _)).trans zero_rv)))
  unfold cutD cutX
  rw [o,if_pos (by
    have:(blen (⟨false,[],0⟩:Dx).m:Int)=0:=by rw [show (⟨false,[],0⟩:Dx).m=0 from rfl];rfl
    omega)]
theorem trim_zero(p:Int)(hp:0≤p):trimV zeroIv p=zeroIv:=by
  show (⟨cutD ⟨false,[],0⟩ p false,cutD ⟨false,[],0⟩ p true⟩:Vx)=zeroIv
  rw [cutD_zero _ _ hp,cutD_zero _ _ hp];rfl
theorem zero_right:rightV zeroIv=true:=by rw [right_K];decide
theorem chk_of{d:Dx}(h:d.fitsB=true):chkD d=0:=by rw [chkD,if_pos h]
theorem fault_of{t:Dx}{p:Int}(ht:0≤t.m)(hf:t.fitsB=true)(h:small1 t)(p0:8≤p)(p1:p≤4096):faultD t p=0:=by
  rw [faultD,if_pos ⟨chk_of hf,p0,p1⟩,if_neg]
  intro k
  rw [cmpD_gt0,rv_int 1,rv_abs ht] at k
  have a:=rv_amt ht
  rcases (show 0≤t.rv∨t.rv≤0 by grind) with c | c
  · have:=a.1 c;have:=h.1;grind
  · have:=a.2 c;have:=h.2;grind
theorem le_eq{a b:Rat}(h:a=b):a≤b:=h ▸ Rat.le_refl
theorem fits_neg{d:Dx}(h:OneF d)(f:d.fitsB=true):(negD d).fitsB=true:=by
  by_cases hz:d.m=0
  · rw [h.zero hz];decide +kernel
  · have t0:=tz_odd2 (h.odd hz) h.p
    have e1:(negD d).m=d.m:=by unfold negD;rw [mkD_m h.p,t0];simp
    have e2:(negD d).e=d.e:=by unfold negD mkD;rw [if_neg hz,t0];simp
    unfold Dx.fitsB at f ⊢
    rw [e1,e2];exact f
def OneV(v:Vx):Prop:=OneF v.lo∧OneF v.hi
theorem zero_f:OneV zeroIv:=⟨⟨false,0,0,Int.le_refl _,(mkD_zero _ _).symm⟩,⟨false,0,0,Int.le_refl _,(mkD_zero _ _).symm⟩⟩
theorem sinS_bd{t:Rat}(t0:0<t)(t1:t≤1){a b:Rat}(h:Enc (sinS t) a b):a<t∧6*t-t*t*t<6*b:=by
  have x0:0<t*t:=Rat.mul_pos t0 t0
  have x1:t*t≤1:=sqr_le1 t1 (by grind)
  have y0:0<t*t*(t*t):=Rat.mul_pos x0 x0
  have y1:t*t*(t*t)≤t*t:=by have:=rmL x1 (rlL x0);grind
  have z1:t*t*(t*t)*(t*t)≤t*t*(t*t):=by have:=rmL x1 (rlL y0);grind
  have m1:tmf 2 (t*t) 1=t*t/6:=by simp [tmf];grind
  have m2:tmf 2 (t*t) 2=t*t*(t*t)/120:=by rw [tmf,m1];simp;grind
  have m3:tmf 2 (t*t) 3=t*t*(t*t)*(t*t)/5040:=by rw [tmf,m2];simp;grind
  have p02:parS 0 2 (t*t) 2=1:=by simp [parS,sumTo,tmf];grind
  have p12:parS 1 2 (t*t) 2=t*t/6:=by simp [parS,sumTo,m1];grind
  have p03:parS 0 2 (t*t) 3=1+t*t*(t*t)/120:=by simp [parS,sumTo,m1,m2];simp [tmf];grind
  have p13:parS 1 2 (t*t) 3=t*t/6:=by simp [parS,sumTo,m1,m2];grind
  have e1:=altS_enc (f:=2) (by omega) (rlL x0) x1 (K:=2) (r:=t*t*(t*t)/110) (by omega) (le_eq p02.symm) (le_eq p02) (le_eq p12.symm) (le_eq p12) (by rw [m2];grind)
  have e2:=altS_enc (f:=2) (by omega) (rlL x0) x1 (K:=3) (r:=t*t*(t*t)*(t*t)/4620) (by omega) (le_eq p03.symm) (le_eq p03) (le_eq p13.symm) (le_eq p13) (by rw [m3];grind)
  rw [sin_seq] at h
  have mul:∀ {a b:Rat},Enc (altS 2 (t*t)) a b→Enc (fun n=>t*altS 2 (t*t) n) (t*a) (t*b):=fun {a b} k=>by
    have l:=rmL k.self (rlL t0)
    refine Enc.mul (Enc.const t) k ?_
    rintro x y (rfl | rfl) (rfl | rfl)<;>exact ⟨by grind,by grind⟩
  have u:=h.meets (mul e1)
  have w:=(mul e2).meets h
  have q1:=Rat.mul_pos t0 (show 0<t*t/6-t*t*(t*t)/110 by grind)
  have q2:=Rat.mul_pos t0 (show 0<t*t*(t*t)/120-t*t*(t*t)*(t*t)/4620 by grind)
  exact ⟨by grind,by grind⟩
theorem cosS_bd{t:Rat}(t0:-1≤t)(t1:t≤1){a b:Rat}(h:Enc (cosS t) a b):a≤1∧1-t*t/2≤b:=by
  have x0:0≤t*t:=sqr_nonneg t
  have x1:t*t≤1:=sqr_le1 t1 t0
  have y0:0≤t*t*(t*t):=rmN x0 x0
  have y1:t*t*(t*t)≤t*t:=by have:=rmL x1 x0;grind
  have z1:t*t*(t*t)*(t*t)≤t*t*(t*t):=by have:=rmL x1 y0;grind
  have m1:tmf 1 (t*t) 1=t*t/2:=by simp [tmf];grind
  have m2:tmf 1 (t*t) 2=t*t*(t*t)/24:=by rw [tmf,m1];simp;grind
  have m3:tmf 1 (t*t) 3=t*t*(t*t)*(t*t)/720:=by rw [tmf,m2];simp;grind
  have p02:parS 0 1 (t*t) 2=1:=by simp [parS,sumTo,tmf];grind
  have p12:parS 1 1 (t*t) 2=t*t/2:=by simp [parS,sumTo,m1];grind
  have p03:parS 0 1 (t*t) 3=1+t*t*(t*t)/24:=by simp [parS,sumTo,m1,m2];simp [tmf];grind
  have p13:parS 1 1 (t*t) 3=t*t/2:=by simp [parS,sumTo,m1,m2];grind
  have e1:=altS_enc (f:=1) (by omega) x0 x1 (K:=2) (r:=t*t*(t*t)/22) (by omega) (le_eq p02.symm) (le_eq p02) (le_eq p12.symm) (le_eq p12) (by rw [m2];grind)
  have e2:=altS_enc (f:=1) (by omega) x0 x1 (K:=3) (r:=t*t*(t*t)*(t*t)/660) (by omega) (le_eq p03.symm) (le_eq p03) (le_eq p13.symm) (le_eq p13) (by rw [m3];grind)
  rw [cos_seq] at h
  have u:=h.meets e1
  have w:=e2.meets h
  exact ⟨by grind,by grind⟩
theorem quarL_spec{x:Dx}{p:Int}:∀ (n:Nat) (w:Int),8≤w→quarL x p n w=(0,zeroIv,6)∨∃ w',8≤w'∧w'≤8192∧okW x p w'=true∧quarL x p n w=((tryP x p w').1,(tryP x p w').2.1,0)
  | 0,_,_=>.inl rfl
  | n+1,w,hw=>by
    rw [quarL]
    split
    · rename_i h
      exact .inr ⟨min w 8192,by omega,by omega,h,rfl⟩
    · split
      · exact .inl rfl
      · exact quarL_spec n (2*min w 8192) (by omega)
theorem okW_parts{x:Dx}{p w:Int}(h:okW x p w=true):sureW (halfP w) x w=true∧rightV (restW (halfP w) x w)=true∧narrowV (restW (halfP w) x w) p=true∧tryP x p w=(by4I (nW (halfP w) x w),restW (halfP w) x w,true):=by
  unfold okW at h
  rw [Bool.and_eq_true] at h
  unfold tryP tryW at h ⊢
  by_cases hs:sureW (halfP w) x w=true
  · rw [if_pos hs] at h ⊢
    exact ⟨hs,h.2,h.1,by rw [show narrowV (restW (halfP w) x w) p=true from h.1]⟩
  · rw [if_neg hs] at h
    cases h.1
def condQ(x:Dx)(p:Int):Prop:=x.fitsB=true∧8≤p∧p≤3968
structure QuE (y:Dx) (p:Int) (Q:Int×Vx×Int) (w:Int):Prop where
  w0:8≤w
  w1:w≤8192
  sure:sureW (halfP w) y w=true
  right:rightV (restW (halfP w) y w)=true
  nar:narrowV (restW (halfP w) y w) p=true
  eq:Q=(by4I (nW (halfP w) y w),restW (halfP w) y w,0)
theorem quar_cases(x:Dx)(p:Int):(¬ condQ x p∧quarR x p=(0,zeroIv,2))∨(condQ x p∧(oneD x).m=0∧quarR x p=(0,zeroIv,0))∨(condQ x p∧(oneD x).m≠0∧1024≤topD (oneD x)∧quarR x p=(0,zeroIv,3)) ∨
    (condQ x p∧(oneD x).m≠0∧topD (oneD x)<1024∧quarR x p=(0,zeroIv,6))∨(condQ x p∧(oneD x).m≠0∧topD (oneD x)<1024∧∃ w,QuE (oneD x) p (quarR x p) w):=by
  by_cases c:condQ x p
  · have e:quarR x p=(if (oneD x).m=0 then (0,zeroIv,0) else if 1024≤topD (oneD x) then (0,zeroIv,3) else quarL (oneD x) p 9 (max (topD (oneD x)) 0+p+64)):=if_pos c
    by_cases z:(oneD x).m=0
    · exact .inr (.inl ⟨c,z,by rw [e,if_pos z]⟩)
    · by_cases t:1024≤topD (oneD x)
      · exact .inr (.inr (.inl ⟨c,z,t,by rw [e,if_neg z,if_pos t]⟩))
      · rw [if_neg z,if_neg t] at e
        have cp:=c.2.1
        rcases quarL_spec (x:=oneD x) (p:=p) 9 (max (topD (oneD x)) 0+p+64) (by omega) with h | ⟨w,w0,w1,ok,h⟩
        · exact .inr (.inr (.inr (.inl ⟨c,z,by omega,by rw [e,h]⟩)))
        · obtain ⟨o1,o2,o3,o4⟩:=okW_parts ok
          rw [o4] at h
          exact .inr (.inr (.inr (.inr ⟨c,z,by omega,w,⟨w0,w1,o1,o2,o3,by rw [e,h]⟩⟩)))
  · exact .inl ⟨c,if_neg c⟩
def farB(x:Dx):Bool:=!x.zeroB && (ltI (topD (oneD x)) (-16384) || ltI 16384 (topD (oneD x)))
noncomputable abbrev cpW (w:World) (neg:Bool) (s:Value) (e:Int):World:=((w.alloc (.cells #[.bool neg,s,.int .i64 e] 25)).alloc (.cells #[.bool false,.slice none 0 0,.int .i64 0] 25)).alloc (.cells #[] 57)
theorem rest_any{h:Vx}(hp:h.P){x:Dx}(hx:0≤x.m){w:Int}(hw:1≤w){c:Rat}(hc:InV h c):InV (restW h x w) (x.rv-(nI h x w:Rat)*c):=by
  have en:(nW h x w).rv=(nI h x w:Rat):=(wholeS_rv nearD_e).symm
  have np:0≤(nW h x w).m:=nearD_p
  obtain ⟨a1,a2⟩:=prod_in (pointV_p (nW h x w)) hp (pointV_in np) hc
  rw [en] at a1 a2
  obtain ⟨t1,t2⟩:=times_best (v:=pointV (nW h x w)) (u:=h) (p:=w+64) (by omega) (pointV_p _) hp
  have t1':=t1.2.1
  have t2':=t2.2.1
  obtain ⟨l1,l2⟩:=less_best (v:=pointV x) (u:=timesV (pointV (nW h x w)) h (w+64)) (pointV_p x) (trimV_p _ _) hw
  obtain ⟨p1,p2'⟩:=pointV_rv hx
  have l1':=l1.2.1
  have l2':=l2.2.1
  constructor
  · have:(restW h x w).lo.rv≤(pointV x).lo.rv-(timesV (pointV (nW h x w)) h (w+64)).hi.rv:=l1'
    grind
  · have:(pointV x).hi.rv-(timesV (pointV (nW h x w)) h (w+64)).lo.rv≤(restW h x w).hi.rv:=l2'
    grind
instance condQ_dec (x:Dx) (p:Int):Decidable (condQ x p):=inferInstanceAs (Decidable (_∧_∧_))
def xVVIv(f:Vx→Vx→Int→Vx):Spec:=specK [.v,.v,.i .i64] fun (v:Vx) (u:Vx) (p:Int)=>(some (v.Sm 268435456∧u.Sm 268435456∧0≤p∧p≤1099511627776),vT (f v u p))
theorem alt_sum_ge{D:Nat→Rat}(h0:∀ k,0≤D k)(h:∀ k,2*D (k+1)≤D k):∀ n,D n≤sumTo (fun k=>alt k*D k) (n+1)
  | 0=>by
    show D 0≤0+alt 0*D 0
    rw [show alt 0=1 from rfl];grind
  | n+1=>by
    have a:=alt_sum_ge h0 h n
    have c:=h0 n
    have b:=h n
    show D (n+1)≤sumTo (fun k=>alt k*D k) (n+1)+alt (n+1)*D (n+1)
    rcases alt_one (n+1) with e | e<;>rw [e]<;>grind
theorem alt_sum_nonneg{D:Nat→Rat}(h0:∀ k,0≤D k)(h:∀ k,2*D (k+1)≤D k):∀ n,0≤sumTo (fun k=>alt k*D k) n
  | 0=>Rat.le_refl
  | n+1=>Rat.le_trans (h0 n) (alt_sum_ge h0 h n)
theorem c_nonneg{c z:Rat}(hc:6≤c)(h:0≤c*z):0≤z:=Rat.not_lt.1 fun k=>by
  have:=Rat.mul_pos (show 0<c by grind) (show 0 < -z by grind)
  grind
structure Pair (c A B:Nat→Rat) (x y:Rat):Prop where
  c6:∀ k,6≤c k
  a1:∀ k,c k*A (k+1)=x*A k
  b1:∀ k,c k*B (k+1)=y*B k
  y0:0≤y
  yx:y≤x
  x1:x≤1
  b0:0≤B 0
  d0:B 0≤A 0
  i:B 0*(x-y)≤2*(A 0-B 0)
theorem Pair.ind{c A B:Nat→Rat}{x y:Rat}(h:Pair c A B x y):∀ k,0≤B k∧B k≤A k∧B k*(x-y)≤2*(A k-B k)
  | 0=>⟨h.b0,h.d0,h.i⟩
  | k+1=>by
    obtain ⟨p1,p2,p3⟩:=Pair.ind h k
    have ca:=h.a1 k
    have cb:=h.b1 k
    have c6:=h.c6 k
    have yx:=h.yx
    have y0:=h.y0
    have x1:=h.x1
    have n1:=rmN y0 p1
    have n2:=rmN (show 0≤x by grind) (show 0≤A k-B k by grind)
    have n3:=rmN p1 (show 0≤x-y by grind)
    have n4:=rmR (show y≤1 by grind) n3
    refine ⟨c_nonneg c6 (by rw [cb];exact n1),?_,?_⟩
    · have:=c_nonneg (z:=A (k+1)-B (k+1)) c6 (by grind)
      grind
    · have e:c k*(2*(A (k+1)-B (k+1))-B (k+1)*(x-y))=2*(x*A k-y*B k)-y*B k*(x-y):=by rw [←ca,←cb];grind
      have:=c_nonneg (z:=2*(A (k+1)-B (k+1))-B (k+1)*(x-y)) c6 (by rw [e];grind)
      grind
theorem Pair.half{c A B:Nat→Rat}{x y:Rat}(h:Pair c A B x y)(k:Nat):2*(A (k+1)-B (k+1))≤A k-B k:=by
  obtain ⟨p1,p2,p3⟩:=h.ind k
  obtain ⟨q1,q2,q3⟩:=h.ind (k+1)
  have m:=rmR (h.c6 k) (show 0≤A (k+1)-B (k+1) by grind)
  have n:=rmR h.x1 (show 0≤A k-B k by grind)
  have ca:=h.a1 k
  have cb:=h.b1 k
  grind
theorem Pair.le{c A B:Nat→Rat}{x y:Rat}(h:Pair c A B x y)(n:Nat):sumTo (fun k=>alt k*B k) n≤sumTo (fun k=>alt k*A k) n:=by
  have p:=alt_sum_nonneg (D:=fun k=>A k-B k) (fun k=>by have:=(h.ind k).2.1;grind) (fun k=>h.half k) n
  have e:sumTo (fun k=>alt k*(A k-B k)) n=sumTo (fun k=>alt k*A k) n + -1*sumTo (fun k=>alt k*B k) n:=by
    rw [←sumTo_mul,←sumTo_add];exact sumTo_congr fun i _=>by grind
  rw [e] at p
  grind
theorem tmf_mul{f:Nat}(hf:1≤f)(x:Rat)(k:Nat):((f+2*k:Nat):Rat)*((f+2*k+1:Nat):Rat)*tmf f x (k+1)=x*tmf f x k:=by
  have p1:(0:Rat)<((f+2*k:Nat):Rat):=by rw [←Rat.intCast_natCast];exact (cast_lt (a:=0)).2 (by omega)
  have p2:=nat_pos (f+2*k)
  have i1:=Rat.inv_mul_cancel ((f+2*k:Nat):Rat) (by grind)
  have i2:=Rat.inv_mul_cancel ((f+2*k+1:Nat):Rat) (by grind)
  rw [tmf]
  generalize ((f+2*k:Nat):Rat)=u at *
  generalize ((f+2*k+1:Nat):Rat)=v at *
  have e:u*v*(tmf f x k*x*u⁻¹*v⁻¹)=tmf f x k*x*(u⁻¹*u)*(v⁻¹*v):=by grind
  rw [e,i1,i2]
  grind
theorem coef6{a b:Nat}(ha:2≤a)(hb:3≤b):(6:Rat)≤(a:Rat)*(b:Rat):=by
  have a1:(2:Rat)≤(a:Rat):=by rw [←Rat.intCast_natCast];exact (cast_le (a:=2)).2 (by omega)
  have a2:(3:Rat)≤(b:Rat):=by rw [←Rat.intCast_natCast];exact (cast_le (a:=3)).2 (by omega)
  have b1:=rmR a1 (show 0≤(b:Rat) by grind)
  grind
theorem sinS_mono0{s t:Rat}(h0:0≤s)(h:s≤t)(h1:t≤1)(n:Nat):sinS s n≤sinS t n:=by
  have y:s*s≤t*t:=by
    have a:=rmL h h0
    have b:=rmR h (show 0≤t by grind)
    grind
  have x1:t*t≤1:=by have:=rmL h1 (show 0≤t by grind);grind
  have p:Pair (fun k=>((2+2*k:Nat):Rat)*((2+2*k+1:Nat):Rat)) (fun k=>t*tmf 2 (t*t) k) (fun k=>s*tmf 2 (s*s) k) (t*t) (s*s) :=
    { c6:=fun k=>coef6 (by omega) (by omega),a1:=fun k=>by have:=tmf_mul (f:=2) (by omega) (t*t) k;grind,b1:=fun k=>by have:=tmf_mul (f:=2) (by omega) (s*s) k;grind,
      y0:=rmN h0 h0,yx:=y,x1:=x1,b0:=by show 0≤s*1;grind,d0:=by show s*1≤t*1;grind,
      i:=by
        show s*1*(t*t-s*s)≤2*(t*1-s*1)
        have a:=rmR (show t+s≤2 by grind) (show 0≤t-s by grind)
        have b:=rmR (show s≤1 by grind) (show 0≤t*t-s*s by grind)
        grind }
  have e:∀ u:Rat,sinS u n=sumTo (fun k=>alt k*(u*tmf 2 (u*u) k)) n:=fun u=>sumTo_congr fun i _=>by rw [sinT,dpw_odd]
  rw [e,e]
  exact p.le n
theorem sinS_zero(n:Nat):sinS 0 n=0:=by rw [sinS_alt,Rat.zero_mul]
theorem sinS_mono{s t:Rat}(h0:-1≤s)(h:s≤t)(h1:t≤1)(n:Nat):sinS s n≤sinS t n:=by
  rcases (show 0≤s∨s≤0 by grind) with a | a
  · exact sinS_mono0 a h h1 n
  · have e:sinS s n = -sinS (-s) n:=by rw [←sinS_neg,Rat.neg_neg]
    rcases (show 0≤t∨t≤0 by grind) with b | b
    · have c:=sinS_mono0 (Rat.le_refl (a:=0)) b h1 n
      have d:=sinS_mono0 (Rat.le_refl (a:=0)) (show 0≤-s by grind) (by grind) n
      rw [sinS_zero] at c d
      grind
    · have e':sinS t n = -sinS (-t) n:=by rw [←sinS_neg,Rat.neg_neg]
      have d:=sinS_mono0 (show 0≤-t by grind) (show -t≤-s by grind) (by grind) n
      grind
theorem cosS_anti{s t:Rat}(h:s*s≤t*t)(h1:t*t≤1)(n:Nat):cosS t n≤cosS s n:=by
  have s0:0≤s*s:=by
    rcases (show 0≤s∨s≤0 by grind) with a | a
    · exact rmN a a
    · have:=rmN (show 0≤-s by grind) (show 0≤-s by grind);grind
  have m0:∀ u:Rat,2*tmf 1 u 1=u:=fun u=>by
    have:=tmf_mul (f:=1) (by omega) u 0
    have e1:((1+2*0:Nat):Rat)*((1+2*0+1:Nat):Rat)=2:=by decide +kernel
    rw [e1] at this
    rw [this];show u*1=u;grind
  have p:Pair (fun k=>((1+2*(k+1):Nat):Rat)*((1+2*(k+1)+1:Nat):Rat)) (fun k=>tmf 1 (t*t) (k+1)) (fun k=>tmf 1 (s*s) (k+1)) (t*t) (s*s) :=
    { c6:=fun k=>coef6 (by omega) (by omega),a1:=fun k=>tmf_mul (f:=1) (by omega) (t*t) (k+1),b1:=fun k=>tmf_mul (f:=1) (by omega) (s*s) (k+1),
      y0:=s0,yx:=h,x1:=h1,b0:=by have:=m0 (s*s);show 0≤tmf 1 (s*s) 1;grind,d0:=by have:=m0 (s*s);have:=m0 (t*t);show tmf 1 (s*s) 1≤tmf 1 (t*t) 1;grind,
      i:=by
        have a:=m0 (s*s)
        have b:=m0 (t*t)
        show tmf 1 (s*s) 1*(t*t-s*s)≤2*(tmf 1 (t*t) 1-tmf 1 (s*s) 1)
        have c:=rmR (show tmf 1 (s*s) 1≤1 by grind) (show 0≤t*t-s*s by grind)
        grind }
  have e:∀ u:Rat,cosS u n=sumTo (fun k=>alt k*tmf 1 (u*u) k) n:=fun u=>cosS_alt u n
  cases n with
  | zero=>exact Rat.le_refl
  | succ n =>
    rw [e,e,sumTo_head,sumTo_head]
    have q:=p.le n
    have g:∀ u:Rat,sumTo (fun i=>alt (i+1)*tmf 1 u (i+1)) n = -1*sumTo (fun i=>alt i*tmf 1 u (i+1)) n:=fun u=>by
      rw [←sumTo_mul];exact sumTo_congr fun i _=>by rw [alt_succ];grind
    rw [g,g]
    show alt 0*1+_≤alt 0*1+_
    grind
theorem Enc.le{s t:Nat→Rat}{a b c d:Rat}(h:Enc s a b)(k:Enc t c d)(hs:∀ n,s n≤t n):a≤d:=by
  refine Rat.not_lt.1 fun g=>?_
  obtain ⟨N,hN⟩:=h ((a-d)/4) (by grind)
  obtain ⟨M,hM⟩:=k ((a-d)/4) (by grind)
  have x:=(hN (N+M) (by omega)).1
  have y:=(hM (N+M) (by omega)).2
  have z:=hs (N+M)
  grind
def Rel(ε x y:Rat):Prop:=(x-y≤ε*y∧y-x≤ε*y)∨(x-y≤-(ε*y)∧y-x≤-(ε*y))
theorem min_close{a1 b1 a2 b2 c1 d1 c2 d2 m y δ:Rat}(h1:Nar δ a1 b1)(h2:Nar δ a2 b2)(k1:Nar δ c1 d1)(k2:Nar δ c2 d2)(x1:a1≤d1)(x2:c1≤b1)(x3:a2≤d2)(x4:c2≤b2)
    (m1:m≤a1) (m2:m≤a2) (mm:m=a1∨m=b1∨m=a2∨m=b2) (y1:y≤c1) (y2:y≤c2) (yy:y=c1∨y=c2):m≤y+δ*y∧y≤m+δ*m:=by
  obtain ⟨a0,ab,e1⟩:=h1
  obtain ⟨a0',ab',e1'⟩:=h2
  obtain ⟨c0,cd,f1⟩:=k1
  obtain ⟨c0',cd',f1'⟩:=k2
  have M:m=a1∨m=a2:=by grind
  refine ⟨?_,?_⟩
  · rcases yy with rfl | rfl<;>grind
  · rcases M with rfl | rfl<;>grind
theorem max_close{a1 b1 a2 b2 c1 d1 c2 d2 m y δ:Rat}(d0:0≤δ)(h1:Nar δ a1 b1)(h2:Nar δ a2 b2)(k1:Nar δ c1 d1)(k2:Nar δ c2 d2)(x1:a1≤d1)(x2:c1≤b1)(x3:a2≤d2)(x4:c2≤b2)
    (m1:b1≤m) (m2:b2≤m) (mm:m=a1∨m=b1∨m=a2∨m=b2) (y1:d1≤y) (y2:d2≤y) (yy:y=d1∨y=d2):m≤y+δ*y∧y≤m+δ*m:=by
  obtain ⟨a0,ab,e1⟩:=h1
  obtain ⟨a0',ab',e1'⟩:=h2
  obtain ⟨c0,cd,f1⟩:=k1
  obtain ⟨c0',cd',f1'⟩:=k2
  have M:m=b1∨m=b2:=by grind
  have q1:=rmL (show a1≤y by grind) d0
  have q2:=rmL (show a2≤y by grind) d0
  have q3:=rmL (show c1≤m by grind) d0
  have q4:=rmL (show c2≤m by grind) d0
  refine ⟨?_,?_⟩
  · rcases M with e | e<;>grind
  · rcases yy with e | e<;>grind
theorem dn_close{q:Int}{m c y δ ε:Rat}(h:Dn q m c)(hq:1≤q)(m0:0<m)(d0:0≤δ)(d1:δ≤1)(k1:m≤y+δ*y)(k2:y≤m+δ*m)(he:2*(δ+eps q)≤ε):Rel ε c y:=by
  obtain ⟨r1,r2⟩:=h.rel hq m0
  have r3:=h.2.1
  have e0:=eps_pos q
  have y0:0<y:=Rat.not_le.1 fun g=>by
    have:=rmL g d0
    grind
  have t1:=rmR d1 (rlL y0)
  have t2:=rmL (show m≤2*y by grind) (show 0≤δ+eps q by grind)
  have t3:=rmR he (rlL y0)
  have t4:=rmN (rlL e0) (rlL y0)
  have t5:=rmN d0 (rlL y0)
  exact .inl ⟨by grind,by grind⟩
theorem up_close{q:Int}{m c y δ ε:Rat}(h:Up q m c)(hq:1≤q)(m0:0<m)(d0:0≤δ)(d1:δ≤1)(k1:m≤y+δ*y)(k2:y≤m+δ*m)(he:2*(δ+eps q)≤ε):Rel ε c y:=by
  have r1:=h.rel hq m0
  have r3:=h.2.1
  have e0:=eps_pos q
  have y0:0<y:=Rat.not_le.1 fun g=>by
    have:=rmL g d0
    grind
  have t1:=rmR d1 (rlL y0)
  have t2:=rmL (show m≤2*y by grind) (show 0≤δ by grind)
  have t6:=rmL (show m≤2*y by grind) (rlL e0)
  have t3:=rmR he (rlL y0)
  have t4:=rmN (rlL e0) (rlL y0)
  have t5:=rmN d0 (rlL y0)
  exact .inl ⟨by grind,by grind⟩
theorem sgn_le0{d:Dx}(h:0≤d.m):d.sgn≤0↔d.rv≤0:=by
  rcases sgn_rv h with ⟨a,b⟩|⟨a,b⟩|⟨a,b⟩
  · rw [a,b];simp
  · exact ⟨fun k=>by omega,fun k=>by exfalso;grind⟩
  · exact ⟨fun _=>rlL b,fun _=>by omega⟩
theorem sgn_ge0{d:Dx}(h:0≤d.m):0≤d.sgn↔0≤d.rv:=by
  rcases sgn_rv h with ⟨a,b⟩|⟨a,b⟩|⟨a,b⟩
  · rw [a,b];simp
  · exact ⟨fun _=>rlL b,fun _=>by omega⟩
  · exact ⟨fun k=>by omega,fun k=>by exfalso;grind⟩
theorem zeroV_rv{v:Vx}(hv:v.P):zeroV v=true↔v.lo.rv≤0∧0≤v.hi.rv:=by
  unfold zeroV
  rw [Bool.and_eq_true,decide_eq_true_eq,decide_eq_true_eq,sgn_le0 hv.1,sgn_ge0 hv.2]
theorem hull_lo(a b:Vx):(hullV a b).lo.rv≤a.lo.rv∧(hullV a b).lo.rv≤b.lo.rv∧((hullV a b).lo=a.lo∨(hullV a b).lo=b.lo):=by
  by_cases h:cmpD b.lo a.lo<0
  · have e:(hullV a b).lo=b.lo:=if_pos h
    have:=cmpD_lt0.1 h
    rw [e];exact ⟨by grind,Rat.le_refl,.inr rfl⟩
  · have e:(hullV a b).lo=a.lo:=if_neg h
    have:=fun k=>h (cmpD_lt0.2 k)
    rw [e];exact ⟨Rat.le_refl,by grind,.inl rfl⟩
theorem hull_hi(a b:Vx):a.hi.rv≤(hullV a b).hi.rv∧b.hi.rv≤(hullV a b).hi.rv∧((hullV a b).hi=a.hi∨(hullV a b).hi=b.hi):=by
  by_cases h:0<cmpD b.hi a.hi
  · have e:(hullV a b).hi=b.hi:=if_pos h
    have:=cmpD_gt0.1 h
    rw [e];exact ⟨by grind,Rat.le_refl,.inr rfl⟩
  · have e:(hullV a b).hi=a.hi:=if_neg h
    have:=fun k=>h (cmpD_gt0.2 k)
    rw [e];exact ⟨Rat.le_refl,by grind,.inl rfl⟩
structure CosB (v:Vx) (p:Int) (X Y:Vx):Prop where
  xp:X.P
  yp:Y.P
  lo:p2 (-2)≤X.lo.rv∧X.lo.rv≤p2 2
  hi:p2 (-2)≤X.hi.rv∧X.hi.rv≤p2 2
  le:X.lo.rv≤X.hi.rv
  c1:X.lo.rv≤Y.lo.rv+p2 (-24-p)*Y.lo.rv∧Y.lo.rv≤X.lo.rv+p2 (-24-p)*X.lo.rv
  c2:X.hi.rv≤Y.hi.rv+p2 (-24-p)*Y.hi.rv∧Y.hi.rv≤X.hi.rv+p2 (-24-p)*X.hi.rv
  has:∀ x a b,v.lo.rv≤x→x≤v.hi.rv→Enc (cosS x) a b→X.lo.rv≤b∧a≤X.hi.rv
theorem sqr_mono{x y:Rat}(h0:0≤x)(h:x≤y):x*x≤y*y:=by
  have a:=rmL h h0
  have b:=rmR h (show 0≤y by grind)
  grind
theorem sqr_mono'{x y:Rat}(h0:y≤0)(h:x≤y):y*y≤x*x:=by
  have:=sqr_mono (x:=-y) (y:=-x) (by grind) (by grind)
  grind
theorem cosines_ok{v:Vx}{p:Int}(hv:v.P)(f1:small1 v.lo)(f2:small1 v.hi)(hl:v.lo.rv≤v.hi.rv)(p0:0≤p)(p1:p≤8000):CosB v p (cosinesV (onesV v) p) (cosinesH v p):=by
  have A:=cosineV_iv (t:=oneD v.lo) (p:=p) oneD_p (small_one hv.1 f1) p0 (by omega)
  have B:=cosineV_iv (t:=oneD v.hi) (p:=p) oneD_p (small_one hv.2 f2) p0 (by omega)
  have C:=cosineH_iv (p:=p) hv.1 f1 p0 (by omega)
  have D:=cosineH_iv (p:=p) hv.2 f2 p0 (by omega)
  rw [rv_one hv.1] at A
  rw [rv_one hv.2] at B
  have sl:=span4_lo (cosineV (oneD v.lo) p).lo (cosineV (oneD v.lo) p).hi (cosineV (oneD v.hi) p).lo (cosineV (oneD v.hi) p).hi
  have sh:=span4_hi (cosineV (oneD v.lo) p).lo (cosineV (oneD v.lo) p).hi (cosineV (oneD v.hi) p).lo (cosineV (oneD v.hi) p).hi
  have sp:=span4_p A.1.1 A.1.2 B.1.1 B.1.2
  have hL:=hull_lo (cosineH v.lo p) (cosineH v.hi p)
  have hH:=hull_hi (cosineH v.lo p) (cosineH v.hi p)
  have z:zeroV (onesV v)=zeroV v:=by
    unfold zeroV onesV
    show (decide ((oneD v.lo).sgn≤0) && decide (0≤(oneD v.hi).sgn))=_
    rw [one_sgn _ hv.1,one_sgn _ hv.2]
  have lo1:(cosinesV (onesV v) p).lo=(spanL (cosineV (oneD v.lo) p).lo [(cosineV (oneD v.lo) p).hi,(cosineV (oneD v.hi) p).lo,(cosineV (oneD v.hi) p).hi]).lo:=by
    unfold cosinesV;split<;>rfl
  have lo2:(cosinesH v p).lo=(hullV (cosineH v.lo p) (cosineH v.hi p)).lo:=by
    unfold cosinesH;split<;>rfl
  have hi1:zeroV v=false→(cosinesV (onesV v) p).hi=(spanL (cosineV (oneD v.lo) p).lo [(cosineV (oneD v.lo) p).hi,(cosineV (oneD v.hi) p).lo,(cosineV (oneD v.hi) p).hi]).hi:=fun h=>by
    unfold cosinesV;rw [z,h];rfl
  have hi2:zeroV v=false→(cosinesH v p).hi=(hullV (cosineH v.lo p) (cosineH v.hi p)).hi:=fun h=>by
    unfold cosinesH;rw [h];rfl
  have hz1:zeroV v=true→(cosinesV (onesV v) p).hi=mkS 1 0:=fun h=>by
    unfold cosinesV;rw [z,h];rfl
  have hz2:zeroV v=true→(cosinesH v p).hi=mkS 1 0:=fun h=>by
    unfold cosinesH;rw [h];rfl
  have r:(mkS 1 0).rv=1:=rv_int 1
  have dd:p2 (-40-p)≤p2 (-24-p):=p2_le (by omega)
  have d0:=rlL (p2_pos (-24-p))
  have nA:=A.2.2.nar.mono dd
  have nB:=B.2.2.nar.mono dd
  have nC:=C.2.2.nar
  have nD:=D.2.2.nar
  have x1:=A.2.1.meets C.2.1
  have x2:=C.2.1.meets A.2.1
  have x3:=B.2.1.meets D.2.1
  have x4:=D.2.1.meets B.2.1
  have lA:=A.2.2.lo
  have hA:=A.2.2.hi
  have lB:=B.2.2.lo
  have hB:=B.2.2.hi
  have mm:=sl.2.2.2.2
  have MM:=sh.2.2.2.2
  have one1:p2 (-2)≤1∧(1:Rat)≤p2 2:=by
    have a:=p2_le (show (-2:Int)≤0 by omega)
    have b:=p2_le (show (0:Int)≤2 by omega)
    rw [p2_zero] at a b
    exact ⟨a,b⟩
  have bdA:=(cosS_bd f1.2 f1.1 A.2.1).1
  have min:=min_close (m:=(spanL (cosineV (oneD v.lo) p).lo [(cosineV (oneD v.lo) p).hi,(cosineV (oneD v.hi) p).lo,(cosineV (oneD v.hi) p).hi]).lo.rv) (y:=(hullV (cosineH v.lo p) (cosineH v.hi p)).lo.rv) nA nB nC nD x1 x2 x3 x4 sl.1 sl.2.2.1 (by rcases mm with e | e | e | e<;>rw [e]<;>simp) hL.1 hL.2.1 (by rcases hL.2.2 with e | e<;>rw [e]<;>simp)
  have max:=max_close (m:=(spanL (cosineV (oneD v.lo) p).lo [(cosineV (oneD v.lo) p).hi,(cosineV (oneD v.hi) p).lo,(cosineV (oneD v.hi) p).hi]).hi.rv) (y:=(hullV (cosineH v.lo p) (cosineH v.hi p)).hi.rv) d0 nA nB nC nD x1 x2 x3 x4 sh.2.1 sh.2.2.2.1 (by rcases MM with e | e | e | e<;>rw [e]<;>simp) hH.1 hH.2.1 (by rcases hH.2.2 with e | e<;>rw [e]<;>simp)
  have X0:=nA.2.1
  have X1:=nB.2.1
  have Lo:p2 (-2)≤(cosinesV (onesV v) p).lo.rv∧(cosinesV (onesV v) p).lo.rv≤p2 2:=by
    rw [lo1]
    refine ⟨?_,by grind⟩
    rcases mm with e | e | e | e<;>rw [e]<;>grind
  have q1:small1 v.lo:=f1
  refine ⟨⟨by rw [lo1];exact sp.1,?_⟩,⟨?_,?_⟩,Lo,?_,?_,by rw [lo1,lo2];exact min,?_,?_⟩
  · cases h:zeroV v with
    | true=>rw [hz1 h];exact mkS_p
    | false=>rw [hi1 h];exact sp.2
  · rw [lo2]
    rcases hL.2.2 with e | e<;>rw [e]
    · exact C.1.p.1
    · exact D.1.p.1
  · cases h:zeroV v with
    | true=>rw [hz2 h];exact mkS_p
    | false =>
      rw [hi2 h]
      rcases hH.2.2 with e | e<;>rw [e]
      · exact C.1.p.2
      · exact D.1.p.2
  · cases h:zeroV v with
    | true=>rw [hz1 h,r];exact one1
    | false =>
      rw [hi1 h]
      refine ⟨by grind,?_⟩
      rcases MM with e | e | e | e<;>rw [e]<;>grind
  · cases h:zeroV v with
    | true=>rw [hz1 h,r,lo1];grind
    | false=>rw [hi1 h,lo1];grind
  · cases h:zeroV v with
    | true=>rw [hz1 h,hz2 h,r];exact ⟨by grind,by grind⟩
    | false=>rw [hi1 h,hi2 h];exact max
  · intro x a b h1 h2 E
    have b1:x*x≤1:=sqr_le1 (by have:=f2.1;grind) (by have:=f1.2;grind)
    have c1:v.lo.rv*v.lo.rv≤1:=sqr_le1 f1.1 f1.2
    have c2:v.hi.rv*v.hi.rv≤1:=sqr_le1 f2.1 f2.2
    refine ⟨?_,?_⟩
    · rw [lo1]
      rcases (show 0≤x∨x≤0 by grind) with g | g
      · have:=B.2.1.le E (fun n=>cosS_anti (sqr_mono g h2) c2 n)
        grind
      · have:=A.2.1.le E (fun n=>cosS_anti (sqr_mono' g h1) c1 n)
        grind
    · cases h:zeroV v with
      | true =>
        rw [hz1 h,r]
        exact (cosS_bd (t:=x) (by have:=f1.2;grind) (by have:=f2.1;grind) E).1
      | false =>
        rw [hi1 h]
        rcases (show 0<v.lo.rv∨v.hi.rv<0 by
          have:=fun k=>(by rw [(zeroV_rv hv).2 k] at h;exact absurd h (by simp):False)
          grind) with g | g
        · have:=E.le A.2.1 (fun n=>cosS_anti (sqr_mono (rlL g) h1) b1 n)
          grind
        · have:=E.le B.2.1 (fun n=>cosS_anti (sqr_mono' (rlL g) h2) b1 n)
          grind
theorem fits_end{d:Dx}{q:Int}{up:Bool}{x:Rat}(hd:0≤d.m)(h:Rp q (cutD d q up).rv)(q0:1≤q)(q1:q≤8000)(x0:p2 (-3)≤x)(x1:x≤p2 3)(e:(cutD d q up).rv=x):(cutD d q up).fitsB=true:=by
  have p:=p2_pos (-3)
  have a:=(rv_amt (d:=cutD d q up) cutD_p).1 (by rw [e];grind)
  rw [e] at a
  exact fits_rp (cutD_f hd) h (by omega) (fun _=>by rw [←a];exact x0) (by rw [←a];exact x1) (by omega) (by omega)
theorem cos_cut{v:Vx}{p:Int}{X Y:Vx}(K:CosB v p X Y)(p0:0≤p)(p1:p≤7000) :
    rightV (trimV X (p+8))=true∧Rel (p2 (2-p)) (trimV X (p+8)).lo.rv Y.lo.rv∧Rel (p2 (2-p)) (trimV X (p+8)).hi.rv Y.hi.rv∧(trimV X (p+8)).lo.rv≤X.lo.rv∧X.hi.rv≤(trimV X (p+8)).hi.rv:=by
  obtain ⟨b1,b2⟩:=trim_best K.xp (p:=p+8) (by omega)
  have q2:=p2_pos (-2)
  have r1:=b1.rel (by omega) (show 0<X.lo.rv by have:=K.lo.1;grind)
  have r2:=b2.rel (by omega) (show 0<X.hi.rv by have:=K.hi.1;grind)
  have e:eps (p+8)=p2 (-7-p):=by unfold eps;congr 1;omega
  have e1:eps (p+8)≤p2 (-1):=by rw [e];exact p2_le (by omega)
  have hf:=p2_half (-1)
  rw [show (-1+1:Int)=0 by omega,p2_zero] at hf
  have t1:=rmR e1 (show 0≤X.lo.rv by have:=K.lo.1;grind)
  have t2:=rmR e1 (show 0≤X.hi.rv by have:=K.hi.1;grind)
  have h3:=p2_half (-3)
  rw [show (-3+1:Int) = -2 by omega] at h3
  have h2:=p2_half 2
  rw [show (2+1:Int)=3 by omega] at h2
  have g23:p2 2≤p2 3:=p2_le (by omega)
  have l1:=K.lo.1
  have l2:=K.lo.2
  have l3:=K.hi.1
  have l4:=K.hi.2
  have hl:=b1.2.1
  have hh:=b2.2.1
  have x2:p2 (-1)*X.lo.rv+p2 (-1)*X.lo.rv=X.lo.rv:=by grind
  have x3:p2 (-1)*X.hi.rv+p2 (-1)*X.hi.rv=X.hi.rv:=by grind
  have f1:(trimV X (p+8)).lo.fitsB=true:=fits_end K.xp.1 b1.1 (by omega) (by omega) (x:=(trimV X (p+8)).lo.rv) (by grind) (by grind) rfl
  have f2:(trimV X (p+8)).hi.fitsB=true:=fits_end K.xp.2 b2.1 (by omega) (by omega) (x:=(trimV X (p+8)).hi.rv) (by grind) (by grind) rfl
  have d0:=rlL (p2_pos (-24-p))
  have d1:p2 (-24-p)≤1:=by have:=p2_le (show -24-p≤0 by omega);rwa [p2_zero] at this
  have he:2*(p2 (-24-p)+eps (p+8))≤p2 (2-p):=by
    have a:=p2_le (show -24-p≤-7-p by omega)
    have b:=p2_dbl (-7-p)
    have c:=p2_half (-7-p+1)
    have d:=p2_le (show -7-p+1+1≤2-p by omega)
    rw [e];grind
  exact ⟨right_of f1 f2 (by have:=K.le;grind),dn_close b1 (by omega) (by grind) d0 d1 K.c1.1 K.c1.2 he,up_close b2 (by omega) (by grind) d0 d1 K.c2.1 K.c2.2 he,hl,hh⟩
theorem altS2_anti{x y:Rat}(x0:0≤x)(h:x≤y)(h1:y≤1)(n:Nat):altS 2 y n≤altS 2 x n:=by
  have m0:∀ u:Rat,6*tmf 2 u 1=u:=fun u=>by
    have:=tmf_mul (f:=2) (by omega) u 0
    have e1:((2+2*0:Nat):Rat)*((2+2*0+1:Nat):Rat)=6:=by decide +kernel
    rw [e1] at this
    rw [this];show u*1=u;grind
  have p:Pair (fun k=>((2+2*(k+1):Nat):Rat)*((2+2*(k+1)+1:Nat):Rat)) (fun k=>tmf 2 y (k+1)) (fun k=>tmf 2 x (k+1)) y x :=
    { c6:=fun k=>coef6 (by omega) (by omega),a1:=fun k=>tmf_mul (f:=2) (by omega) y (k+1),b1:=fun k=>tmf_mul (f:=2) (by omega) x (k+1),
      y0:=x0,yx:=h,x1:=h1,b0:=by have:=m0 x;show 0≤tmf 2 x 1;grind,d0:=by have:=m0 x;have:=m0 y;show tmf 2 x 1≤tmf 2 y 1;grind,
      i:=by
        have a:=m0 x
        have b:=m0 y
        show tmf 2 x 1*(y-x)≤2*(tmf 2 y 1-tmf 2 x 1)
        have c:=rmR (show tmf 2 x 1≤1/6 by grind) (show 0≤y-x by grind)
        grind }
  have e:∀ u:Rat,altS 2 u n=sumTo (fun k=>alt k*tmf 2 u k) n:=fun u=>rfl
  cases n with
  | zero=>exact Rat.le_refl
  | succ n =>
    rw [e,e,sumTo_head,sumTo_head]
    have q:=p.le n
    have g:∀ u:Rat,sumTo (fun i=>alt (i+1)*tmf 2 u (i+1)) n = -1*sumTo (fun i=>alt i*tmf 2 u (i+1)) n:=fun u=>by
      rw [←sumTo_mul];exact sumTo_congr fun i _=>by rw [alt_succ];grind
    rw [g,g]
    show alt 0*1+_≤alt 0*1+_
    grind
theorem sin_ratio{a b:Rat}(a0:0≤a)(h:a≤b)(h1:b≤1)(n:Nat):a*sinS b n≤b*sinS a n:=by
  have b0:0≤b:=by grind
  have b1:b*b≤1:=by have:=rmL h1 b0;grind
  have m:=altS2_anti (x:=a*a) (y:=b*b) (rmN a0 a0) (sqr_mono a0 h) b1 n
  rw [sinS_alt,sinS_alt]
  have:=rmL m (rmN a0 b0)
  grind
theorem cos_diff{s t:Rat}(h:s*s≤t*t)(h1:t*t≤1)(n:Nat):cosS s n-cosS t n≤(t*t-s*s)/2:=by
  have s0:0≤s*s:=by
    rcases (show 0≤s∨s≤0 by grind) with a | a
    · exact rmN a a
    · have:=rmN (show 0≤-s by grind) (show 0≤-s by grind);grind
  have m0:∀ u:Rat,2*tmf 1 u 1=u:=fun u=>by
    have:=tmf_mul (f:=1) (by omega) u 0
    have e1:((1+2*0:Nat):Rat)*((1+2*0+1:Nat):Rat)=2:=by decide +kernel
    rw [e1] at this
    rw [this];show u*1=u;grind
  have p:Pair (fun k=>((1+2*(k+1):Nat):Rat)*((1+2*(k+1)+1:Nat):Rat)) (fun k=>tmf 1 (t*t) (k+1)) (fun k=>tmf 1 (s*s) (k+1)) (t*t) (s*s) :=
    { c6:=fun k=>coef6 (by omega) (by omega),a1:=fun k=>tmf_mul (f:=1) (by omega) (t*t) (k+1),b1:=fun k=>tmf_mul (f:=1) (by omega) (s*s) (k+1),
      y0:=s0,yx:=h,x1:=h1,b0:=by have:=m0 (s*s);show 0≤tmf 1 (s*s) 1;grind,d0:=by have:=m0 (s*s);have:=m0 (t*t);show tmf 1 (s*s) 1≤tmf 1 (t*t) 1;grind,
      i:=by
        have a:=m0 (s*s)
        have b:=m0 (t*t)
        show tmf 1 (s*s) 1*(t*t-s*s)≤2*(tmf 1 (t*t) 1-tmf 1 (s*s) 1)
        have c:=rmR (show tmf 1 (s*s) 1≤1 by grind) (show 0≤t*t-s*s by grind)
        grind }
  have dn:∀ k,0≤tmf 1 (t*t) (k+1)-tmf 1 (s*s) (k+1):=fun k=>by have:=(p.ind k).2.1;grind
  have key:∀ m,sumTo (fun k=>alt k*(tmf 1 (t*t) (k+1)-tmf 1 (s*s) (k+1))) m≤tmf 1 (t*t) 1-tmf 1 (s*s) 1:=fun m=>by
    cases m with
    | zero=>exact dn 0
    | succ m =>
      rw [sumTo_head]
      have q:=alt_sum_nonneg (D:=fun k=>tmf 1 (t*t) (k+1+1)-tmf 1 (s*s) (k+1+1)) (fun k=>dn (k+1)) (fun k=>p.half (k+1)) m
      have g:sumTo (fun i=>alt (i+1)*(tmf 1 (t*t) (i+1+1)-tmf 1 (s*s) (i+1+1))) m = -1*sumTo (fun i=>alt i*(tmf 1 (t*t) (i+1+1)-tmf 1 (s*s) (i+1+1))) m:=by
        rw [←sumTo_mul];exact sumTo_congr fun i _=>by rw [alt_succ];grind
      rw [g]
      show alt 0*(tmf 1 (t*t) 1-tmf 1 (s*s) 1)+_≤_
      have a0:alt 0=1:=rfl
      rw [a0];grind
  have e:∀ u:Rat,cosS u n=sumTo (fun k=>alt k*tmf 1 (u*u) k) n:=fun u=>cosS_alt u n
  have m1:=m0 (s*s)
  have m2:=m0 (t*t)
  cases n with
  | zero =>
    have z:∀ u:Rat,cosS u 0=0:=fun _=>rfl
    rw [z,z];grind
  | succ n =>
    rw [e,e,sumTo_head,sumTo_head]
    have g:∀ u:Rat,sumTo (fun i=>alt (i+1)*tmf 1 u (i+1)) n = -1*sumTo (fun i=>alt i*tmf 1 u (i+1)) n:=fun u=>by
      rw [←sumTo_mul];exact sumTo_congr fun i _=>by rw [alt_succ];grind
    rw [g,g]
    have q:=key n
    have e2:sumTo (fun k=>alt k*(tmf 1 (t*t) (k+1)-tmf 1 (s*s) (k+1))) n=sumTo (fun k=>alt k*tmf 1 (t*t) (k+1)) n + -1*sumTo (fun k=>alt k*tmf 1 (s*s) (k+1)) n:=by
      rw [←sumTo_mul,←sumTo_add];exact sumTo_congr fun i _=>by grind
    rw [e2] at q
    show (alt 0*1+_)-(alt 0*1+_)≤_
    grind
theorem sin_nar{a b l1 h1 l2 h2 δ ε:Rat}(hab:Nar δ a b)(b1:b≤1)(e1:Enc (sinS a) l1 h1)(e2:Enc (sinS b) l2 h2)(n1:Nar ε l1 h1)(n2:Nar ε l2 h2)(d0:0≤δ)(d1:δ≤1/8)(f0:0≤ε)(f1:ε≤1/8):Nar (2*δ+4*ε) l1 h2:=by
  obtain ⟨a0,ab,bd⟩:=hab
  obtain ⟨x0,x1,x2⟩:=n1
  obtain ⟨y0,y1,y2⟩:=n2
  have r:a*l2≤b*h1:=Enc.le (e2.scale (c:=a) (by grind)) (e1.scale (c:=b) (by grind)) (fun n=>sin_ratio (by grind) ab b1 n)
  have m:l1≤h2:=Enc.le e1 e2 (fun n=>sinS_mono (by grind) ab b1 n)
  refine ⟨x0,m,?_⟩
  have s1:=rmR bd (show 0≤h1 by grind)
  have s2:=rmL x2 (show 0≤a+δ*a by have:=rmN d0 (rlL a0);grind)
  have t:l2≤(1+δ)*(l1+ε*l1):=by
    rw [←Rat.not_lt];intro hlt
    have:=Rat.mul_lt_mul_of_pos_left hlt a0
    grind
  have u0:=rmN f0 (rlL x0)
  have u1:=rmR f1 (show 0≤l2 by grind)
  have v1:=rmL t f0
  have w1:=rmR d1 u0
  have w2:=rmR f1 u0
  have w3:=rmR f1 (rmN d0 (rlL x0))
  have w4:=rmN d0 (rlL x0)
  have w5:=rmL w2 d0
  have w6:=rmL w2 (Rat.le_refl (a:=0))
  have w7:=rmN d0 u0
  have w8:=rmR f1 w7
  grind
def VN(δ:Rat)(v:Vx):Prop:=(v.lo.rv=0∧v.hi.rv=0)∨NarV δ v
structure SinB (δ L H:Rat) (v X:Vx):Prop where
  p:X.P
  vm:VM δ L H X
  has:∀ x a b,v.lo.rv≤x→x≤v.hi.rv→Enc (sinS x) a b→X.lo.rv≤b∧a≤X.hi.rv
theorem sinS_bd'{t:Rat}(t0:t<0)(t1:-1≤t){a b:Rat}(h:Enc (sinS t) a b):a<0:=by
  have e:(fun n=>-sinS t n)=sinS (-t):=by funext n;rw [sinS_neg]
  have k:=h.neg
  rw [e] at k
  have:=(sinS_bd (t:=-t) (by grind) (by grind) k).2
  have m:=rmL (show (-t)*(-t)≤1 by have:=rmL (show -t≤1 by grind) (show 0≤-t by grind);grind) (show 0≤-t by grind)
  grind
theorem sinS_bd0{t:Rat}(t0:0<t)(t1:t≤1){a b:Rat}(h:Enc (sinS t) a b):0<b:=by
  have:=(sinS_bd t0 t1 h).2
  have m:=rmL (show t*t≤1 by have:=rmL t1 (show 0≤t by grind);grind) (show 0≤t by grind)
  grind
theorem sines_nar{v:Vx}{p:Int}{δ:Rat}{A:Int}(hv:v.P)(f1:small1 v.lo)(f2:small1 v.hi)(hn:NarV δ v)(hA:p2 A≤v.lo.rv∨p2 A≤-v.hi.rv)(d0:0≤δ)(d1:δ≤1/8)(p0:0≤p)(p1:p≤8000) :
    SinB (2*δ+4*p2 (-36-p)) (p2 (A-4)) (p2 4) v (sinesV (onesV v) p):=by
  have qA:=p2_pos A
  have r1:(oneD v.lo).rv=v.lo.rv:=rv_one hv.1
  have r2:(oneD v.hi).rv=v.hi.rv:=rv_one hv.2
  obtain ⟨a1,a2⟩:=rv_amt (d:=oneD v.lo) oneD_p
  obtain ⟨b1,b2⟩:=rv_amt (d:=oneD v.hi) oneD_p
  rw [r1] at a1 a2
  rw [r2] at b1 b2
  have w:p2 (-36-p)≤1/8:=by
    have:=p2_le (show -36-p≤-3 by omega)
    have e:p2 (-3)=1/8:=by decide +kernel
    grind
  have w0:=rlL (p2_pos (-36-p))
  have key:∀ {a b l1 h1 l2 h2:Rat},Nar δ a b→b≤1→Enc (sinS a) l1 h1→Enc (sinS b) l2 h2→NM (p2 (-36-p)) (p2 (A-4)) (p2 4) l1 h1→NM (p2 (-36-p)) (p2 (A-4)) (p2 4) l2 h2→NM (2*δ+4*p2 (-36-p)) (p2 (A-4)) (p2 4) l1 h2:=fun n hb e1 e2 n1 n2 =>
    ⟨n1.L0,n1.lo,n2.hi,sin_nar n hb e1 e2 n1.nar n2.nar d0 d1 w0 w⟩
  have lo_ne:v.lo.rv≠0∧v.hi.rv≠0∧p2 A≤((oneD v.lo).m:Rat)*p2 (oneD v.lo).e∧p2 A≤((oneD v.hi).m:Rat)*p2 (oneD v.hi).e:=by
    rcases hn with ⟨n0,n1,n2⟩|⟨n0,n1,n2⟩
    · have h:p2 A≤v.lo.rv:=by rcases hA with h | h<;>grind
      exact ⟨by grind,by grind,by rw [←a1 (by grind)];exact h,by rw [←b1 (by grind)];grind⟩
    · have h:p2 A≤-v.hi.rv:=by rcases hA with h | h<;>grind
      exact ⟨by grind,by grind,by rw [←a2 (by grind)];grind,by rw [←b2 (by grind)];exact h⟩
  obtain ⟨z1,z2,m1,m2⟩:=lo_ne
  have P:=sineV_iv (t:=oneD v.lo) (p:=p) oneD_p (small_one hv.1 f1) (by rw [r1];exact z1) m1 p0 (by omega)
  have Q:=sineV_iv (t:=oneD v.hi) (p:=p) oneD_p (small_one hv.2 f2) (by rw [r2];exact z2) m2 p0 (by omega)
  rw [r1] at P
  rw [r2] at Q
  obtain ⟨P1,P2,P3⟩:=P
  obtain ⟨Q1,Q2,Q3⟩:=Q
  have hl:v.lo.rv≤v.hi.rv:=by
    rcases hn with ⟨_,n1,_⟩|⟨_,n1,_⟩
    · exact n1
    · grind
  refine ⟨⟨P1.1,Q1.2⟩,?_,fun x a b x1 x2 E=>⟨P2.le E fun n=>sinS_mono f1.2 x1 (Rat.le_trans x2 f2.1) n,E.le Q2 fun n=>sinS_mono (Rat.le_trans f1.2 x1) x2 f2.1 n⟩⟩
  show NM _ _ _ (sineV (oneD v.lo) p).lo.rv (sineV (oneD v.hi) p).hi.rv∨NM _ _ _ (-(sineV (oneD v.hi) p).hi.rv) (-(sineV (oneD v.lo) p).lo.rv)
  rcases hn with n | n
  · obtain ⟨n0,n1,n2⟩:=n
    have s1:=sinS_bd0 n0 f1.1 P2
    have s2:=sinS_bd0 (show 0<v.hi.rv by grind) f2.1 Q2
    have g1:NM (p2 (-36-p)) (p2 (A-4)) (p2 4) (sineV (oneD v.lo) p).lo.rv (sineV (oneD v.lo) p).hi.rv:=by
      rcases P3 with h | h
      · exact h
      · exfalso;have:=h.nar.1;grind
    have g2:NM (p2 (-36-p)) (p2 (A-4)) (p2 4) (sineV (oneD v.hi) p).lo.rv (sineV (oneD v.hi) p).hi.rv:=by
      rcases Q3 with h | h
      · exact h
      · exfalso;have:=h.nar.1;grind
    exact .inl (key ⟨n0,n1,n2⟩ f2.1 P2 Q2 g1 g2)
  · obtain ⟨n0,n1,n2⟩:=n
    have s1:=sinS_bd' (show v.lo.rv<0 by grind) f1.2 P2
    have s2:=sinS_bd' (show v.hi.rv<0 by grind) f2.2 Q2
    have g1:NM (p2 (-36-p)) (p2 (A-4)) (p2 4) (-(sineV (oneD v.lo) p).hi.rv) (-(sineV (oneD v.lo) p).lo.rv):=by
      rcases P3 with h | h
      · exfalso;have:=h.nar.1;grind
      · exact h
    have g2:NM (p2 (-36-p)) (p2 (A-4)) (p2 4) (-(sineV (oneD v.hi) p).hi.rv) (-(sineV (oneD v.hi) p).lo.rv):=by
      rcases Q3 with h | h
      · exfalso;have:=h.nar.1;grind
      · exact h
    have P2':=P2.neg
    have Q2':=Q2.neg
    rw [show (fun n=>-sinS v.lo.rv n)=sinS (-v.lo.rv) by funext n;rw [sinS_neg]] at P2'
    rw [show (fun n=>-sinS v.hi.rv n)=sinS (-v.hi.rv) by funext n;rw [sinS_neg]] at Q2'
    exact .inr (key (a:=-v.hi.rv) (b:=-v.lo.rv) ⟨n0,n1,n2⟩ (by have:=f1.2;grind) Q2' P2' g2 g1)
theorem cos_gap{a b δ:Rat}(hn:Nar δ a b)(h1:b≤1)(d0:0≤δ)(n:Nat):cosS a n-cosS b n≤δ:=by
  obtain ⟨a0,ab,bd⟩:=hn
  have b1:b*b≤1:=by have:=rmL h1 (show 0≤b by grind);grind
  have c:=cos_diff (sqr_mono (rlL a0) ab) b1 n
  have m1:=rmR (show b-a≤δ*a by grind) (show 0≤b+a by grind)
  have m2:=rmR (show a≤1 by grind) (show 0≤b+a by grind)
  have m3:=rmL (show a*(b+a)≤2 by grind) d0
  grind
theorem gap_enc{s t:Nat→Rat}{a b c d δ:Rat}(h:Enc s a b)(k:Enc t c d)(g:∀ n,s n-t n≤δ):a-d≤δ:=by
  have e:=h.add k.neg
  have:=e.le (Enc.const δ) (fun n=>by have:=g n;show s n + -t n≤δ;grind)
  grind
theorem cosines_nar{v:Vx}{p:Int}{δ:Rat}(hv:v.P)(f1:small1 v.lo)(f2:small1 v.hi)(hn:VN δ v)(d0:0≤δ)(p0:0≤p)(p1:p≤8000) :
    NM (4*δ+32*p2 (-40-p)) (p2 (-2)) (p2 2) (cosinesV (onesV v) p).lo.rv (cosinesV (onesV v) p).hi.rv:=by
  have hl:v.lo.rv≤v.hi.rv:=by
    rcases hn with ⟨a,b⟩|⟨_,n1,_⟩|⟨_,n1,_⟩
    · rw [a,b];exact Rat.le_refl
    · exact n1
    · grind
  have K:=cosines_ok (p:=p) hv f1 f2 hl p0 p1
  have A:=cosineV_iv (t:=oneD v.lo) (p:=p) oneD_p (small_one hv.1 f1) p0 (by omega)
  have B:=cosineV_iv (t:=oneD v.hi) (p:=p) oneD_p (small_one hv.2 f2) p0 (by omega)
  rw [rv_one hv.1] at A
  rw [rv_one hv.2] at B
  obtain ⟨_,A2,A3⟩:=A
  obtain ⟨_,B2,B3⟩:=B
  have w0:=rlL (p2_pos (-40-p))
  have q2:p2 2=4:=by decide +kernel
  have qm:p2 (-2)=1/4:=by decide +kernel
  have aw:=A3.nar.2.2
  have bw:=B3.nar.2.2
  have al:=A3.nar.2.1
  have bl:=B3.nar.2.1
  have ah:=A3.hi
  have bh:=B3.hi
  have m1:=rmL (show (cosineV (oneD v.lo) p).lo.rv≤4 by grind) w0
  have m2:=rmL (show (cosineV (oneD v.hi) p).lo.rv≤4 by grind) w0
  have g:(cosineV (oneD v.lo) p).lo.rv-(cosineV (oneD v.hi) p).hi.rv≤δ∧(cosineV (oneD v.hi) p).lo.rv-(cosineV (oneD v.lo) p).hi.rv≤δ:=by
    rcases hn with ⟨a,b⟩ | n | n
    · rw [a] at A2
      rw [b] at B2
      have:=A2.meets B2
      have:=B2.meets A2
      constructor<;>grind
    · have x:=gap_enc A2 B2 (cos_gap n f2.1 d0)
      have y:=B2.le A2 fun k=>cosS_anti (sqr_mono (rlL n.1) n.2.1) (sqr_le1 f2.1 f2.2) k
      exact ⟨x,by grind⟩
    · have A2':Enc (cosS (-v.lo.rv)) (cosineV (oneD v.lo) p).lo.rv (cosineV (oneD v.lo) p).hi.rv:=by
        rw [show cosS (-v.lo.rv)=cosS v.lo.rv by funext k;rw [cosS_neg]];exact A2
      have B2':Enc (cosS (-v.hi.rv)) (cosineV (oneD v.hi) p).lo.rv (cosineV (oneD v.hi) p).hi.rv:=by
        rw [show cosS (-v.hi.rv)=cosS v.hi.rv by funext k;rw [cosS_neg]];exact B2
      have x:=gap_enc B2' A2' (cos_gap n (by have:=f1.2;grind) d0)
      have y:=A2'.le B2' fun k=>cosS_anti (sqr_mono (rlL n.1) n.2.1) (sqr_le1 (by have:=f1.2;grind) (by have:=f1.1;grind)) k
      exact ⟨by grind,x⟩
  have sl:=span4_lo (cosineV (oneD v.lo) p).lo (cosineV (oneD v.lo) p).hi (cosineV (oneD v.hi) p).lo (cosineV (oneD v.hi) p).hi
  have sh:=span4_hi (cosineV (oneD v.lo) p).lo (cosineV (oneD v.lo) p).hi (cosineV (oneD v.hi) p).lo (cosineV (oneD v.hi) p).hi
  have lo1:(cosinesV (onesV v) p).lo=(spanL (cosineV (oneD v.lo) p).lo [(cosineV (oneD v.lo) p).hi,(cosineV (oneD v.hi) p).lo,(cosineV (oneD v.hi) p).hi]).lo:=by
    unfold cosinesV;split<;>rfl
  have z:zeroV (onesV v)=zeroV v:=by
    unfold zeroV onesV
    show (decide ((oneD v.lo).sgn≤0) && decide (0≤(oneD v.hi).sgn))=_
    rw [one_sgn _ hv.1,one_sgn _ hv.2]
  have wide:(cosinesV (onesV v) p).hi.rv-(cosinesV (onesV v) p).lo.rv≤δ+8*p2 (-40-p):=by
    rw [lo1]
    have mm:=sl.2.2.2.2
    cases h:zeroV v with
    | true =>
      have e:(cosinesV (onesV v) p).hi=mkS 1 0:=by unfold cosinesV;rw [z,h];rfl
      obtain ⟨zl,zh⟩:=(zeroV_rv hv).1 h
      have zz:v.lo.rv=0∧v.hi.rv=0:=by
        rcases hn with n | ⟨n0,_,_⟩|⟨n0,_,_⟩
        · exact n
        · exfalso;grind
        · exfalso;grind
      rw [e,show (mkS 1 0).rv=1 from rv_int 1]
      rw [zz.1] at A2
      rw [zz.2] at B2
      have ca:=(cosS_bd (t:=0) (by decide) (by decide) A2).2
      have cb:=(cosS_bd (t:=0) (by decide) (by decide) B2).2
      rcases mm with e | e | e | e<;>rw [e]<;>grind
    | false =>
      have e:(cosinesV (onesV v) p).hi=(spanL (cosineV (oneD v.lo) p).lo [(cosineV (oneD v.lo) p).hi,(cosineV (oneD v.hi) p).lo,(cosineV (oneD v.hi) p).hi]).hi:=by
        unfold cosinesV;rw [z,h];rfl
      rw [e]
      have MM:=sh.2.2.2.2
      rcases MM with e | e | e | e<;>rw [e]<;>rcases mm with e' | e' | e' | e'<;>rw [e']<;>grind
  have lo:=K.lo
  have hi:=K.hi
  have le:=K.le
  rw [qm] at lo
  have m3:=rmL lo.1 (show 0≤4*δ+32*p2 (-40-p) by grind)
  exact ⟨p2_pos _,K.lo.1,K.hi.2,by grind,le,by grind⟩
theorem Enc.mid{s t u:Nat→Rat}{a b c d:Rat}(h:Enc s a b)(k:Enc t c d)(h1:∀ n,s n≤u n)(h2:∀ n,u n≤t n):Enc u a d:=fun e he=>by
  obtain ⟨N,x⟩:=h e he
  obtain ⟨M,y⟩:=k e he
  refine ⟨max N M,fun n hn=>?_⟩
  have:=x n (by omega)
  have:=y n (by omega)
  have:=h1 n
  have:=h2 n
  constructor<;>grind
theorem sineH_enc{t:Dx}{p:Int}(ht:0≤t.m)(h1:small1 t)(p0:0≤p)(p1:p≤60000):(sineH t p).P∧Enc (sinS t.rv) (sineH t p).lo.rv (sineH t p).hi.rv:=by
  by_cases h0:t.rv=0
  · have e:sineH t p=zeroIv:=by rw [sineH,if_pos ((sine_zero ht).2 h0)]
    have z:zeroIv.lo.rv=0:=zero_rv
    have z':zeroIv.hi.rv=0:=zero_rv
    rw [e,h0,z,z']
    exact ⟨⟨Int.le_refl _,Int.le_refl _⟩,enc_sin0⟩
  · obtain ⟨a1,a2⟩:=rv_amt ht
    have pos:0<(t.m:Rat)*p2 t.e:=by
      rcases (show 0<t.rv∨t.rv<0 by grind) with s | s
      · rw [←a1 (by grind)];exact s
      · rw [←a2 (by grind)];grind
    obtain ⟨k,k1,_⟩:=log2_ex pos
    have V:=sineH_iv ht h1 h0 k1 p0 p1
    exact ⟨V.1,V.2.1⟩
theorem sinesH_enc{v:Vx}{p:Int}(hv:v.P)(f1:small1 v.lo)(f2:small1 v.hi)(p0:0≤p)(p1:p≤60000):(sinesH v p).P∧∀ x,v.lo.rv≤x→x≤v.hi.rv→Enc (sinS x) (sinesH v p).lo.rv (sinesH v p).hi.rv:=by
  have A:=sineH_enc (p:=p) hv.1 f1 p0 p1
  have B:=sineH_enc (p:=p) hv.2 f2 p0 p1
  exact ⟨⟨A.1.1,B.1.2⟩,fun x x1 x2=>A.2.mid B.2 (fun n=>sinS_mono f1.2 x1 (Rat.le_trans x2 f2.1) n) fun n=>sinS_mono (Rat.le_trans f1.2 x1) x2 f2.1 n⟩
theorem cos_over{v:Vx}(hv:v.P)(f1:small1 v.lo)(f2:small1 v.hi){a b c d lo hi:Rat}(A:Enc (cosS v.lo.rv) a b)(B:Enc (cosS v.hi.rv) c d)(l1:lo≤a)(l2:lo≤c)(h:(zeroV v=true∧hi=1)∨(zeroV v=false∧b≤hi∧d≤hi)){x:Rat}(x1:v.lo.rv≤x)(x2:x≤v.hi.rv):Enc (cosS x) lo hi:=by
  have b1:x*x≤1:=sqr_le1 (by have:=f2.1;grind) (by have:=f1.2;grind)
  have c1:v.lo.rv*v.lo.rv≤1:=sqr_le1 f1.1 f1.2
  have c2:v.hi.rv*v.hi.rv≤1:=sqr_le1 f2.1 f2.2
  have x0:0≤x*x:=by
    rcases (show 0≤x∨x≤0 by grind) with g | g
    · exact rmN g g
    · have:=rmN (show 0≤-x by grind) (show 0≤-x by grind);grind
  have Z:∀ n,cosS x n≤cosS 0 n:=fun n=>cosS_anti (by rw [Rat.zero_mul];exact x0) b1 n
  have low:∃ s e,Enc s lo e∧∀ n,s n≤cosS x n:=by
    rcases (show 0≤x∨x≤0 by grind) with g | g
    · exact ⟨_,d,B.wide l2 Rat.le_refl,fun n=>cosS_anti (sqr_mono g x2) c2 n⟩
    · exact ⟨_,b,A.wide l1 Rat.le_refl,fun n=>cosS_anti (sqr_mono' g x1) c1 n⟩
  obtain ⟨s,e,E,Es⟩:=low
  rcases h with ⟨hz,rfl⟩|⟨hz,h1,h2⟩
  · exact E.mid enc_cos0 Es Z
  · rcases (show 0<v.lo.rv∨v.hi.rv<0 by
      have:=fun k=>(by rw [(zeroV_rv hv).2 k] at hz;exact absurd hz (by simp):False)
      grind) with g | g
    · exact E.mid (A.wide Rat.le_refl h1) Es fun n=>cosS_anti (sqr_mono (rlL g) x1) b1 n
    · exact E.mid (B.wide Rat.le_refl h2) Es fun n=>cosS_anti (sqr_mono' (rlL g) x2) b1 n
theorem cosinesH_enc{v:Vx}{p:Int}(hv:v.P)(f1:small1 v.lo)(f2:small1 v.hi)(p0:0≤p)(p1:p≤60000):(cosinesH v p).P∧∀ x,v.lo.rv≤x→x≤v.hi.rv→Enc (cosS x) (cosinesH v p).lo.rv (cosinesH v p).hi.rv:=by
  have A:=cosineH_iv (p:=p) hv.1 f1 p0 p1
  have B:=cosineH_iv (p:=p) hv.2 f2 p0 p1
  have hL:=hull_lo (cosineH v.lo p) (cosineH v.hi p)
  have hH:=hull_hi (cosineH v.lo p) (cosineH v.hi p)
  have lo2:(cosinesH v p).lo=(hullV (cosineH v.lo p) (cosineH v.hi p)).lo:=by
    unfold cosinesH;split<;>rfl
  have hh:(zeroV v=true∧(cosinesH v p).hi=mkS 1 0)∨(zeroV v=false∧(cosinesH v p).hi=(hullV (cosineH v.lo p) (cosineH v.hi p)).hi):=by
    unfold cosinesH
    cases h:zeroV v
    · exact .inr ⟨rfl,rfl⟩
    · exact .inl ⟨rfl,rfl⟩
  refine ⟨⟨?_,?_⟩,fun x x1 x2=>cos_over hv f1 f2 A.2.1 B.2.1 (by rw [lo2];exact hL.1) (by rw [lo2];exact hL.2.1) ?_ x1 x2⟩
  · rw [lo2]
    rcases hL.2.2 with e | e<;>rw [e]
    · exact A.1.p.1
    · exact B.1.p.1
  · rcases hh with ⟨_,e⟩|⟨_,e⟩<;>rw [e]
    · exact mkS_p
    · rcases hH.2.2 with e | e<;>rw [e]
      · exact A.1.p.2
      · exact B.1.p.2
  · rcases hh with ⟨z,e⟩|⟨z,e⟩
    · exact .inl ⟨z,by rw [e];exact rv_int 1⟩
    · exact .inr ⟨z,by rw [e];exact hH.1,by rw [e];exact hH.2.1⟩
theorem sineV_enc{t:Dx}{p:Int}(ht:0≤t.m)(h1:small1 t)(p0:0≤p)(p1:p≤60000):(sineV t p).P∧Enc (sinS t.rv) (sineV t p).lo.rv (sineV t p).hi.rv:=by
  by_cases h0:t.rv=0
  · have e:sineV t p=zeroIv:=by rw [sineV,if_pos ((sine_zero ht).2 h0)]
    have z:zeroIv.lo.rv=0:=zero_rv
    have z':zeroIv.hi.rv=0:=zero_rv
    rw [e,h0,z,z']
    exact ⟨⟨Int.le_refl _,Int.le_refl _⟩,enc_sin0⟩
  · obtain ⟨a1,a2⟩:=rv_amt ht
    have pos:0<(t.m:Rat)*p2 t.e:=by
      rcases (show 0<t.rv∨t.rv<0 by grind) with s | s
      · rw [←a1 (by grind)];exact s
      · rw [←a2 (by grind)];grind
    obtain ⟨k,k1,_⟩:=log2_ex pos
    have V:=sineV_iv ht h1 h0 k1 p0 p1
    exact ⟨V.1,V.2.1⟩
theorem sinesV_enc{v:Vx}{p:Int}(hv:v.P)(f1:small1 v.lo)(f2:small1 v.hi)(p0:0≤p)(p1:p≤60000):(sinesV (onesV v) p).P∧∀ x,v.lo.rv≤x→x≤v.hi.rv→Enc (sinS x) (sinesV (onesV v) p).lo.rv (sinesV (onesV v) p).hi.rv:=by
  have A:=sineV_enc (t:=oneD v.lo) (p:=p) oneD_p (small_one hv.1 f1) p0 p1
  have B:=sineV_enc (t:=oneD v.hi) (p:=p) oneD_p (small_one hv.2 f2) p0 p1
  rw [rv_one hv.1] at A
  rw [rv_one hv.2] at B
  exact ⟨⟨A.1.1,B.1.2⟩,fun x x1 x2=>A.2.mid B.2 (fun n=>sinS_mono f1.2 x1 (Rat.le_trans x2 f2.1) n) fun n=>sinS_mono (Rat.le_trans f1.2 x1) x2 f2.1 n⟩
theorem cosinesV_enc{v:Vx}{p:Int}(hv:v.P)(f1:small1 v.lo)(f2:small1 v.hi)(hl:v.lo.rv≤v.hi.rv)(p0:0≤p)(p1:p≤8000):(cosinesV (onesV v) p).P∧∀ x,v.lo.rv≤x→x≤v.hi.rv→Enc (cosS x) (cosinesV (onesV v) p).lo.rv (cosinesV (onesV v) p).hi.rv:=by
  have K:=cosines_ok (p:=p) hv f1 f2 hl p0 p1
  have A:=cosineV_iv (t:=oneD v.lo) (p:=p) oneD_p (small_one hv.1 f1) p0 (by omega)
  have B:=cosineV_iv (t:=oneD v.hi) (p:=p) oneD_p (small_one hv.2 f2) p0 (by omega)
  rw [rv_one hv.1] at A
  rw [rv_one hv.2] at B
  have sl:=span4_lo (cosineV (oneD v.lo) p).lo (cosineV (oneD v.lo) p).hi (cosineV (oneD v.hi) p).lo (cosineV (oneD v.hi) p).hi
  have sh:=span4_hi (cosineV (oneD v.lo) p).lo (cosineV (oneD v.lo) p).hi (cosineV (oneD v.hi) p).lo (cosineV (oneD v.hi) p).hi
  have lo1:(cosinesV (onesV v) p).lo=(spanL (cosineV (oneD v.lo) p).lo [(cosineV (oneD v.lo) p).hi,(cosineV (oneD v.hi) p).lo,(cosineV (oneD v.hi) p).hi]).lo:=by
    unfold cosinesV;split<;>rfl
  have z:zeroV (onesV v)=zeroV v:=by
    unfold zeroV onesV
    show (decide ((oneD v.lo).sgn≤0) && decide (0≤(oneD v.hi).sgn))=_
    rw [one_sgn _ hv.1,one_sgn _ hv.2]
  refine ⟨K.xp,fun x x1 x2=>cos_over hv f1 f2 A.2.1 B.2.1 (by rw [lo1];exact sl.1) (by rw [lo1];exact sl.2.2.1) ?_ x1 x2⟩
  cases h:zeroV v with
  | true =>
    have e:(cosinesV (onesV v) p).hi=mkS 1 0:=by unfold cosinesV;rw [z,h];rfl
    exact .inl ⟨rfl,by rw [e];exact rv_int 1⟩
  | false =>
    have e:(cosinesV (onesV v) p).hi=(spanL (cosineV (oneD v.lo) p).lo [(cosineV (oneD v.lo) p).hi,(cosineV (oneD v.hi) p).lo,(cosineV (oneD v.hi) p).hi]).hi:=by
      unfold cosinesV;rw [z,h];rfl
    exact .inr ⟨rfl,by rw [e];exact sh.2.1,by rw [e];exact sh.2.2.2.1⟩
def Thin(δ:Rat)(v:Vx):Prop:=v=zeroIv∨NarV δ v
structure PairOk (v:Vx) (η:Rat) (S C:Vx):Prop where
  sp:S.P
  cp:C.P
  sf:OneV S
  cf:OneV C
  sr:rightV S=true
  cr:rightV C=true
  st:Thin η S
  s32:-32≤S.lo.rv∧S.hi.rv≤32
  cn:Nar η C.lo.rv C.hi.rv
  c0:1/8≤C.lo.rv
  c1:C.hi.rv≤8
  z:v.lo.rv=0→v.hi.rv=0→S=zeroIv
  sin:∀ x,v.lo.rv≤x→x≤v.hi.rv→Enc (sinS x) S.lo.rv S.hi.rv
  cos:∀ x,v.lo.rv≤x→x≤v.hi.rv→Enc (cosS x) C.lo.rv C.hi.rv
theorem trim_enc{s:Nat→Rat}{v:Vx}{p:Int}(hv:v.P)(hp:1≤p)(h:Enc s v.lo.rv v.hi.rv):Enc s (trimV v p).lo.rv (trimV v p).hi.rv:=by
  obtain ⟨b1,b2⟩:=trim_best hv hp
  exact h.wide b1.2.1 b2.2.1
theorem nar_v{δ L H:Rat}{v:Vx}(h:VM δ L H v):NarV δ v:=h.elim (fun h=>.inl h.nar) fun h=>.inr h.nar
theorem pair_ok{v:Vx}{q:Int}{δ:Rat}(hv:v.P)(hr:rightV v=true)(h1:faultD v.lo q=0)(h2:faultD v.hi q=0)(hn:VN δ v)(d0:0≤δ)(hd:δ≤p2 (-q)) :
    (bothR v q=((zeroIv,zeroIv),3)∧rightV (trimV (sinesV (onesV v) q) (q+8))=false)∨bothR v q=((trimV (sinesV (onesV v) q) (q+8),trimV (cosinesV (onesV v) q) (q+8)),0)∧PairOk v (p2 (5-q)) (trimV (sinesV (onesV v) q) (q+8)) (trimV (cosinesV (onesV v) q) (q+8)):=by
  obtain ⟨f1,p0,p1,m1⟩:=fault0 hv.1 h1
  obtain ⟨f2,_,_,m2⟩:=fault0 hv.2 h2
  have hl:=right_le hr
  have eR:bothR v q=both2 (cutR (sinesV (onesV v) q) q) (cutR (cosinesV (onesV v) q) q):=by
    unfold bothR checkR
    rw [if_pos hr,if_pos rfl,if_pos h1,if_pos h2]
  have K:=cosines_ok (p:=q) hv m1 m2 hl (by omega) (by omega)
  have C:=cos_cut K (by omega) (by omega)
  have c2:cutR (cosinesV (onesV v) q) q=(trimV (cosinesV (onesV v) q) (q+8),0):=by rw [cutR,if_pos C.1]
  have e1:eps (q+8)=p2 (-7-q):=by unfold eps;congr 1;omega
  have e4:4*eps (q+8)≤1:=by
    rw [e1]
    have:=p2_le (show -7-q≤-2 by omega)
    have e:p2 (-2)=1/4:=by decide +kernel
    rw [e] at this;grind
  have q0:=p2_pos (-q)
  have k36:p2 (-36-q)≤p2 (-q)/8:=by
    have:=p2_le (show -36-q≤-3 + -q by omega)
    rw [p2_add] at this
    have e:p2 (-3)=1/8:=by decide +kernel
    rw [e] at this;grind
  have k40:p2 (-40-q)≤p2 (-q)/64:=by
    have:=p2_le (show -40-q≤-6 + -q by omega)
    rw [p2_add] at this
    have e:p2 (-6)=1/64:=by decide +kernel
    rw [e] at this;grind
  have k7:p2 (-7-q)≤p2 (-q)/64:=by
    have:=p2_le (show -7-q≤-6 + -q by omega)
    rw [p2_add] at this
    have e:p2 (-6)=1/64:=by decide +kernel
    rw [e] at this;grind
  have k5:p2 (5-q)=32*p2 (-q):=by
    rw [show 5-q=5 + -q by omega,p2_add]
    have e:p2 5=32:=by decide +kernel
    rw [e]
  have q8:p2 (-q)≤1/8:=by
    have:=p2_le (show -q≤-3 by omega)
    have e:p2 (-3)=1/8:=by decide +kernel
    rw [e] at this;exact this
  have w36:=rlL (p2_pos (-36-q))
  have w40:=rlL (p2_pos (-40-q))
  cases hS:rightV (trimV (sinesV (onesV v) q) (q+8)) with
  | false =>
    have c1:cutR (sinesV (onesV v) q) q=(zeroIv,3):=by rw [cutR,if_neg (by rw [hS];simp)]
    exact .inl ⟨by rw [eR,c1,c2];rfl,rfl⟩
  | true =>
    have c1:cutR (sinesV (onesV v) q) q=(trimV (sinesV (onesV v) q) (q+8),0):=by rw [cutR,if_pos hS]
    have SE:=sinesV_enc (p:=q) hv m1 m2 (by omega) (by omega)
    have CE:=cosinesV_enc (p:=q) hv m1 m2 hl (by omega) (by omega)
    have CN:=(cosines_nar (p:=q) hv m1 m2 hn d0 (by omega) (by omega)).trim (p:=q+8) (by grind) (by omega) e4 (trim_best K.xp (by omega)).1 (trim_best K.xp (by omega)).2
    have qm:p2 (-2)=1/4:=by decide +kernel
    have q2:p2 2=4:=by decide +kernel
    have zz:v.lo.rv=0→v.hi.rv=0→trimV (sinesV (onesV v) q) (q+8)=zeroIv:=fun a b=>by
      have A:sineV (oneD v.lo) q=zeroIv:=by rw [sineV,if_pos ((sine_zero oneD_p).2 ((rv_one hv.1).trans a))]
      have B:sineV (oneD v.hi) q=zeroIv:=by rw [sineV,if_pos ((sine_zero oneD_p).2 ((rv_one hv.2).trans b))]
      have:sinesV (onesV v) q=zeroIv:=by
        show (⟨(sineV (oneD v.lo) q).lo,(sineV (oneD v.hi) q).hi⟩:Vx)=_
        rw [A,B]
      rw [this,trim_zero _ (by omega)]
    have big:NarV δ v→VM (2*(2*δ+4*p2 (-36-q))+4*eps (q+8)) (p2 (Classical.epsilon (fun A:Int=>p2 A≤v.lo.rv∨p2 A≤-v.hi.rv)-4)/2) (2*p2 4) (trimV (sinesV (onesV v) q) (q+8)):=fun hn=>by
      have hA:∃ A:Int,p2 A≤v.lo.rv∨p2 A≤-v.hi.rv:=by
        rcases hn with ⟨n0,_,_⟩|⟨n0,_,_⟩
        · obtain ⟨k,k1,_⟩:=log2_ex n0
          exact ⟨k,.inl k1⟩
        · obtain ⟨k,k1,_⟩:=log2_ex n0
          exact ⟨k,.inr k1⟩
      have SB:=sines_nar (p:=q) hv m1 m2 hn (Classical.epsilon_spec hA) d0 (by grind) (by omega) (by omega)
      exact SB.vm.trim SB.p (p:=q+8) (by grind) (by omega) e4
    refine .inr ⟨by rw [eR,c1,c2];rfl,trimV_p _ _,trimV_p _ _,⟨cutD_f SE.1.1,cutD_f SE.1.2⟩,⟨cutD_f K.xp.1,cutD_f K.xp.2⟩,hS,C.1,?_,?_,CN.nar.mono (by rw [e1,k5];grind),by have:=CN.lo;rw [qm] at this;grind,by have:=CN.hi;rw [q2] at this;grind,zz,fun x x1 x2=>trim_enc SE.1 (by omega) (SE.2 x x1 x2),fun x x1 x2=>trim_enc CE.1 (by omega) (CE.2 x x1 x2)⟩
    · rcases hn with ⟨a,b⟩ | hn
      · exact .inl (zz a b)
      · exact .inr (nar_v (big hn)|>.mono (by rw [e1,k5];grind))
    · rcases hn with ⟨a,b⟩ | hn
      · have z:zeroIv.lo.rv=0:=zero_rv
        have z':zeroIv.hi.rv=0:=zero_rv
        rw [zz a b,z,z'];decide
      · have q4:p2 4=16:=by decide +kernel
        rcases big hn with h | h
        · have a:=h.nar.1;have b:=h.nar.2.1;have c:=h.hi;rw [q4] at c;constructor<;>grind
        · have a:=h.nar.1;have b:=h.nar.2.1;have c:=h.hi;rw [q4] at c;constructor<;>grind
theorem small_bd{d:Dx}(h:OneF d)(hf:d.fitsB=true)(h1:-32≤d.rv)(h2:d.rv≤32):d.Bd 32768 8:=by
  have b:=fits_bd hf
  refine ⟨by omega,by omega,b.lo,?_⟩
  by_cases z:d.m=0
  · rw [h.zero z]
    show (0:Int)+(blen (val []):Int)≤8
    decide
  · have m0:=h.p
    have g:=amt_ge (m:=d.m) (e:=d.e) (by omega)
    obtain ⟨r1,r2⟩:=rv_amt h.p
    have q5:p2 5=32:=by decide +kernel
    have:p2 (d.e+(blen d.m:Int)-1)≤p2 5:=by
      rw [q5]
      rcases (show 0≤d.rv∨d.rv≤0 by grind) with s | s
      · have:=r1 s;grind
      · have:=r2 s;grind
    have:=p2_lt_iff.1 (show p2 (d.e+(blen d.m:Int)-1)<p2 6 by
      have e:p2 6=64:=by decide +kernel
      rw [e];rw [q5] at this;grind)
    omega
structure Half (η:Rat) (X:Vx) (s:Nat→Rat):Prop where
  p:X.P
  f:OneV X
  r:rightV X=true
  t:Thin η X
  b:-32≤X.lo.rv∧X.hi.rv≤32
  e:Enc s X.lo.rv X.hi.rv
theorem turn_rv{v:Vx}(h:v.P):(turnV v).lo.rv = -v.hi.rv∧(turnV v).hi.rv = -v.lo.rv:=⟨rv_neg h.2,rv_neg h.1⟩
theorem turn_zero:turnV zeroIv=zeroIv:=by
  have:negD ⟨false,[],0⟩=⟨false,[],0⟩:=mkD_zero _ _
  show (⟨negD ⟨false,[],0⟩,negD ⟨false,[],0⟩⟩:Vx)=_
  rw [this];rfl
theorem NarV.turn{δ:Rat}{v:Vx}(hv:v.P)(h:NarV δ v):NarV δ (turnV v):=by
  obtain ⟨r1,r2⟩:=turn_rv hv
  unfold NarV
  rw [r1,r2,Rat.neg_neg,Rat.neg_neg]
  exact h.symm
theorem Half.turn{η:Rat}{X:Vx}{s:Nat→Rat}(h:Half η X s):Half η (turnV X) (fun n=>-s n):=by
  obtain ⟨r1,r2⟩:=turn_rv h.p
  have f:=right_fits h.r
  have le:=right_le h.r
  refine ⟨⟨negD_p,negD_p⟩,⟨negD_f h.p.2,negD_f h.p.1⟩,right_of (fits_neg h.f.2 f.2.1) (fits_neg h.f.1 f.1) (by rw [r1,r2];grind),?_,by rw [r1,r2];have:=h.b;constructor<;>grind,by rw [r1,r2];exact h.e.neg⟩
  rcases h.t with e | n
  · exact .inl (by rw [e,turn_zero])
  · exact .inr (n.turn h.p)
theorem PairOk.s{v:Vx}{η:Rat}{S C:Vx}(h:PairOk v η S C){x:Rat}(x1:v.lo.rv≤x)(x2:x≤v.hi.rv):Half η S (sinS x):=⟨h.sp,h.sf,h.sr,h.st,h.s32,h.sin x x1 x2⟩
theorem PairOk.c{v:Vx}{η:Rat}{S C:Vx}(h:PairOk v η S C){x:Rat}(x1:v.lo.rv≤x)(x2:x≤v.hi.rv):Half η C (cosS x):=⟨h.cp,h.cf,h.cr,.inr (.inl h.cn),by have:=h.c0;have:=h.c1;have:=h.cn.2.1;constructor<;>grind,h.cos x x1 x2⟩
theorem pair_vm{v:Vx}{q A:Int}{δ:Rat}(hv:v.P)(h1:faultD v.lo q=0)(h2:faultD v.hi q=0)(hn:NarV δ v)(hA:p2 A≤v.lo.rv∨p2 A≤-v.hi.rv)(a0:-20000≤A)(d0:0≤δ)(hd:δ≤p2 (-q)) :
    rightV (trimV (sinesV (onesV v) q) (q+8))=true∧VM (p2 (5-q)) (p2 (A-5)) (p2 5) (trimV (sinesV (onesV v) q) (q+8)):=by
  obtain ⟨f1,p0,p1,m1⟩:=fault0 hv.1 h1
  obtain ⟨f2,_,_,m2⟩:=fault0 hv.2 h2
  have e1:eps (q+8)=p2 (-7-q):=by unfold eps;congr 1;omega
  have e4:4*eps (q+8)≤1:=by
    rw [e1]
    have:=p2_le (show -7-q≤-2 by omega)
    have e:p2 (-2)=1/4:=by decide +kernel
    rw [e] at this;grind
  have k36:p2 (-36-q)≤p2 (-q)/8:=by
    have:=p2_le (show -36-q≤-3 + -q by omega)
    rw [p2_add] at this
    have e:p2 (-3)=1/8:=by decide +kernel
    rw [e] at this;grind
  have k7:p2 (-7-q)≤p2 (-q)/64:=by
    have:=p2_le (show -7-q≤-6 + -q by omega)
    rw [p2_add] at this
    have e:p2 (-6)=1/64:=by decide +kernel
    rw [e] at this;grind
  have k5:p2 (5-q)=32*p2 (-q):=by
    rw [show 5-q=5 + -q by omega,p2_add]
    have e:p2 5=32:=by decide +kernel
    rw [e]
  have q8:p2 (-q)≤1/8:=by
    have:=p2_le (show -q≤-3 by omega)
    have e:p2 (-3)=1/8:=by decide +kernel
    rw [e] at this;exact this
  have w36:=rlL (p2_pos (-36-q))
  have q0:=p2_pos (-q)
  have SB:=sines_nar (p:=q) hv m1 m2 hn hA d0 (by grind) (by omega) (by omega)
  have V:=SB.vm.trim SB.p (p:=q+8) (by grind) (by omega) e4
  have l1:p2 (A-4)/2=p2 (A-5):=by have:=p2_half (A-5);rw [show A-5+1=A-4 by omega] at this;grind
  have l2:2*p2 4=p2 5:=p2_half 4
  rw [l1,l2] at V
  have V':=V.mono (η:=p2 (5-q)) (by rw [e1,k5];grind) (p2_pos _) Rat.le_refl Rat.le_refl
  exact ⟨cut_right SB.p V' (by omega) (by omega) (by omega) (by omega),V'⟩
theorem small_times{v u:Vx}{p:Int}(hv:v.P)(hu:u.P)(hp:8≤p)(h:∀ x y:Rat,(x=v.lo.rv∨x=v.hi.rv)→(y=u.lo.rv∨y=u.hi.rv)→-(4/5)≤x*y∧x*y≤4/5):small1 (timesV v u p).lo∧small1 (timesV v u p).hi:=by
  obtain ⟨⟨x0,y0,hx0,hy0,g1⟩,x1,y1,hx1,hy1,g2⟩:=prod_at hv hu
  obtain ⟨t1,t2⟩:=times_best (p:=p) (by omega) hv hu
  have a:=h x0 y0 hx0 hy0
  have b:=h x1 y1 hx1 hy1
  rw [←g1] at a
  rw [←g2] at b
  have c1:=t1.close (by omega) a.1 a.2
  have c2:=t2.close (by omega) b.1 b.2
  have e:eps p≤1/8:=by
    have:=p2_le (show 1-p≤-3 by omega)
    have e:p2 (-3)=1/8:=by decide +kernel
    rw [e] at this;exact this
  have:=eps_pos p
  unfold small1
  constructor<;>constructor<;>grind
theorem times_in{v u:Vx}{p:Int}(hv:v.P)(hu:u.P)(hp:1≤p){x y:Rat}(hx:InV v x)(hy:InV u y):InV (timesV v u p) (x*y):=by
  obtain ⟨a,b⟩:=prod_in hv hu hx hy
  obtain ⟨t1,t2⟩:=times_best hp hv hu
  have:=t1.2.1
  have:=t2.2.1
  exact ⟨by grind,by grind⟩
theorem PiIv.up{d:Rat}{v:Vx}(h:PiIv d v)(d1:d≤1/100):v.hi.rv≤16/5:=by
  have:=h.enc.meets piS_enc
  have:=h.nar
  grind
theorem PiIv.common{d d':Rat}{u v:Vx}(h:PiIv d u)(k:PiIv d' v):∃ c:Rat,InV u c∧InV v c:=by
  have m1:=h.enc.meets k.enc
  have m2:=k.enc.meets h.enc
  have l1:=h.le
  have l2:=k.le
  rcases (show u.lo.rv≤v.lo.rv∨v.lo.rv≤u.lo.rv by grind) with c | c
  · exact ⟨v.lo.rv,⟨c,m2⟩,⟨Rat.le_refl,l2⟩⟩
  · exact ⟨u.lo.rv,⟨Rat.le_refl,l1⟩,⟨c,m1⟩⟩
theorem pi_corner{d:Rat}{P:Vx}(h:PiIv d P)(d1:d≤1/100){r y:Rat}(r1:-(1/4)≤r)(r2:r≤1/4)(hy:y=P.lo.rv∨y=P.hi.rv):-(4/5)≤r*y∧r*y≤4/5:=by
  have u:=h.up d1
  have l:=h.lo
  have le:=h.le
  have yb:0≤y∧y≤16/5:=by rcases hy with e | e<;>rw [e]<;>exact ⟨by grind,by grind⟩
  have m1:=rmR r1 yb.1
  have m2:=rmR r2 yb.1
  constructor<;>grind
def angT(r:Dx)(p:Int):Vx:=timesV (pointV r) (constPi (p+48)) (p+40)
def angH(r:Dx)(p:Int):Vx:=timesV (refPi (p+40)) (pointV r) (p+40)
structure AngOk (r:Dx) (p:Int) (a:Vx):Prop where
  p:a.P
  s1:small1 a.lo
  s2:small1 a.hi
theorem angH_ok{r:Dx}(hr:0≤r.m)(h1:-(1/4)≤r.rv)(h2:r.rv≤1/4){p:Int}(p0:8≤p)(p1:p≤8000):AngOk r p (angH r p)∧∀ c,InV (refPi (p+40)) c→InV (angH r p) (r.rv*c):=by
  have P:=refPi_iv (w:=p+40) (by omega) (by omega)
  have d1:p2 (23-(p+40))≤1/100:=by
    have:=p2_le (show 23-(p+40)≤-7 by omega)
    have e:p2 (-7)=1/128:=by decide +kernel
    rw [e] at this;grind
  obtain ⟨q1,q2⟩:=pointV_rv hr
  have S:=small_times (p:=p+40) P.p (pointV_p r) (by omega) (fun x y hx hy=>by
    have:y=r.rv:=by rcases hy with e | e<;>rw [e];exact q1;exact q2
    rw [this,Rat.mul_comm];exact pi_corner P d1 h1 h2 hx)
  refine ⟨⟨trimV_p _ _,S.1,S.2⟩,fun c hc=>?_⟩
  rw [Rat.mul_comm]
  exact times_in P.p (pointV_p r) (by omega) hc (pointV_in hr)
theorem angT_ok{r:Dx}(hr:0≤r.m)(h0:r.rv≠0)(h1:-(1/4)≤r.rv)(h2:r.rv≤1/4){p:Int}(p0:8≤p)(p1:p≤8000) :
    AngOk r p (angT r p)∧NarV (p2 (-(p+24))) (angT r p)∧(∀ c,InV (constPi (p+48)) c→InV (angT r p) (r.rv*c)) ∧
      ∀ A,p2 A≤(r.m:Rat)*p2 r.e→p2 A≤(angT r p).lo.rv∨p2 A≤-(angT r p).hi.rv:=by
  have P:=constPi_iv (p:=p+48) (by omega) (by omega)
  have d0:=rlL (p2_pos (-3-(p+48)))
  have d1:p2 (-3-(p+48))≤1/100:=by
    have:=p2_le (show -3-(p+48)≤-7 by omega)
    have e:p2 (-7)=1/128:=by decide +kernel
    rw [e] at this;grind
  obtain ⟨q1,q2⟩:=pointV_rv hr
  have S:=small_times (p:=p+40) (pointV_p r) P.p (by omega) (fun x y hx hy=>by
    have:x=r.rv:=by rcases hx with e | e<;>rw [e];exact q1;exact q2
    rw [this];exact pi_corner P d1 h1 h2 hy)
  have e1:eps (p+40)=p2 (-39-p):=by unfold eps;congr 1;omega
  have e4:4*eps (p+40)≤1:=by
    rw [e1]
    have:=p2_le (show -39-p≤-2 by omega)
    have e:p2 (-2)=1/4:=by decide +kernel
    rw [e] at this;grind
  obtain ⟨a1,a2⟩:=rv_amt hr
  have amt:((r.m:Rat)*p2 r.e=r.rv∧0<r.rv)∨((r.m:Rat)*p2 r.e = -r.rv∧r.rv<0):=by
    rcases (show 0<r.rv∨r.rv<0 by grind) with s | s
    · exact .inl ⟨(a1 (rlL s)).symm,s⟩
    · exact .inr ⟨(a2 (rlL s)).symm,s⟩
  have pos:0<(r.m:Rat)*p2 r.e:=by rcases amt with ⟨e,s⟩|⟨e,s⟩<;>grind
  generalize (r.m:Rat)*p2 r.e=R at *
  have V:VM 0 R R (pointV r):=by
    unfold VM
    rw [q1,q2]
    rcases amt with ⟨e,s⟩|⟨e,s⟩
    · exact .inl ⟨pos,by grind,by grind,Nar.self s⟩
    · exact .inr ⟨pos,by grind,by grind,Nar.self (by grind)⟩
  have N:NM (p2 (-3-(p+48))) 3 4 (constPi (p+48)).lo.rv (constPi (p+48)).hi.rv:=by
    have l:=P.lo
    have m:=rmL (show 1≤(constPi (p+48)).lo.rv by grind) d0
    have n:=P.nar
    exact ⟨by decide,l,P.hi,by grind,P.le,by grind⟩
  have W:=(VM.prod (pointV_p r) P.p V N (Rat.le_refl) d0).trim (prodV_p _ _) (p:=p+40) (by grind) (by omega) e4
  have W:VM _ (R*3/2) (2*(R*4)) (angT r p):=W
  refine ⟨⟨trimV_p _ _,S.1,S.2⟩,(nar_v W).mono ?_,fun c hc=>times_in (pointV_p r) P.p (by omega) (pointV_in hr) hc,fun A hA=>?_⟩
  · rw [e1]
    have k1:p2 (-3-(p+48))≤p2 (-(p+24))/8:=by
      have:=p2_le (show -3-(p+48)≤-3 + -(p+24) by omega)
      rw [p2_add] at this
      have e:p2 (-3)=1/8:=by decide +kernel
      rw [e] at this;grind
    have k2:p2 (-39-p)≤p2 (-(p+24))/8:=by
      have:=p2_le (show -39-p≤-3 + -(p+24) by omega)
      rw [p2_add] at this
      have e:p2 (-3)=1/8:=by decide +kernel
      rw [e] at this;grind
    have:=p2_pos (-(p+24))
    grind
  · rcases W with h | h
    · exact .inl (by have:=h.lo;grind)
    · exact .inr (by have:=h.lo;grind)
def unitV:Vx:=pointV (mkS 1 0)
def nearT(r:Dx)(p:Int):(Vx×Vx)×Int :=
  if r.zeroB=true then ((zeroIv,unitV),0) else if rightV (angT r p)=true then bothR (angT r p) (p+24) else ((zeroIv,zeroIv),3)
def nearH(r:Dx)(p:Int):Vx×Vx:=if r.zeroB=true then (zeroIv,unitV) else (sinesH (angH r p) (p+24),cosinesH (angH r p) (p+24))
structure TwoOk (η:Rat) (S C U W:Vx) (t:Rat):Prop where
  s:Half η S (sinS t)
  c:Half η C (cosS t)
  up:U.P
  wp:W.P
  u:Enc (sinS t) U.lo.rv U.hi.rv
  w:Enc (cosS t) W.lo.rv W.hi.rv
  cn:Nar η C.lo.rv C.hi.rv
  c0:1/8≤C.lo.rv
  c1:C.hi.rv≤8
theorem one_half{η:Rat}(h:0≤η):Half η unitV (cosS 0)∧Nar η unitV.lo.rv unitV.hi.rv∧unitV.lo.rv=1∧unitV.hi.rv=1:=by
  have m:0≤(mkS 1 0).m:=mkS_p
  obtain ⟨q1,q2⟩:=pointV_rv m
  have e:(mkS 1 0).rv=1:=rv_int 1
  rw [e] at q1 q2
  have q1:unitV.lo.rv=1:=q1
  have q2:unitV.hi.rv=1:=q2
  have n:Nar η unitV.lo.rv unitV.hi.rv:=by rw [q1,q2];exact (Nar.self (by decide)).mono h
  refine ⟨⟨pointV_p _,⟨oneD_f m,oneD_f m⟩,by rw [right_K];decide +kernel,.inr (.inl n),by rw [q1,q2];decide,by rw [q1,q2];exact enc_cos0⟩,n,q1,q2⟩
theorem zero_half{η:Rat}:Half η zeroIv (sinS 0):=by
  have z:zeroIv.lo.rv=0:=zero_rv
  have z':zeroIv.hi.rv=0:=zero_rv
  exact ⟨⟨Int.le_refl _,Int.le_refl _⟩,zero_f,zero_right,.inl rfl,by rw [z,z'];decide,by rw [z,z'];exact enc_sin0⟩
theorem nearT_ok{r:Dx}(hr:0≤r.m)(h1:-(1/4)≤r.rv)(h2:r.rv≤1/4){p p':Int}(p0:8≤p)(p1:p≤2064)(p0':8≤p')(p1':p'≤2064) :
    (∃ S C t,nearT r p=((S,C),0)∧TwoOk (p2 (-19-p)) S C (nearH r p').1 (nearH r p').2 t ∧
      (r.rv=0→S=zeroIv∧(nearH r p').1=zeroIv)∧(p2 (-16384)≤(r.m:Rat)*p2 r.e→VM (p2 (-19-p)) (p2 (-16389)) (p2 5) S) ∧
      ∀ A,-20000≤A→p2 A≤(r.m:Rat)*p2 r.e→VM (p2 (-19-p)) (p2 (A-5)) (p2 5) S) ∨
    (nearT r p=((zeroIv,zeroIv),3)∧r.rv≠0∧(r.m:Rat)*p2 r.e<p2 (-16384)):=by
  have e0:=rlL (p2_pos (-19-p))
  by_cases z:r.zeroB=true
  · left
    have rz:=(zeroB_rv hr).1 z
    have mz:r.m=0:=zeroB_true.1 z
    obtain ⟨a,b,c,d⟩:=one_half e0
    have no:∀ A,¬ p2 A≤(r.m:Rat)*p2 r.e:=fun A hA=>by
      rw [mz] at hA
      have:=p2_pos A
      have e:((0:Int):Rat)=0:=rfl
      rw [e,Rat.zero_mul] at hA;grind
    have zh:nearH r p'=(zeroIv,unitV):=by rw [nearH,if_pos z]
    refine ⟨zeroIv,unitV,0,by rw [nearT,if_pos z],?_,fun _=>⟨rfl,by rw [zh]⟩,fun h=>absurd h (no _),fun A _ h=>absurd h (no _)⟩
    rw [zh]
    exact ⟨zero_half,a,zero_half (η:=0).p,a.p,zero_half (η:=0).e,a.e,b,by rw [c];decide +kernel,by rw [d];decide +kernel⟩
  · have rz:r.rv≠0:=fun h=>z ((zeroB_rv hr).2 h)
    obtain ⟨X,N,I,M⟩:=angT_ok hr rz h1 h2 p0 (show p≤8000 by omega)
    obtain ⟨B,J⟩:=angH_ok hr h1 h2 p0' (show p'≤8000 by omega)
    obtain ⟨c,hc,hc'⟩:=(constPi_iv (p:=p+48) (by omega) (by omega)).common (refPi_iv (w:=p' + 40) (by omega) (by omega))
    have Ic:=I c hc
    have Jc:=J c hc'
    have US:=sinesH_enc (p:=p' + 24) B.p B.s1 B.s2 (by omega) (by omega)
    have UC:=cosinesH_enc (p:=p' + 24) B.p B.s1 B.s2 (by omega) (by omega)
    have hH:nearH r p'=(sinesH (angH r p') (p' + 24),cosinesH (angH r p') (p' + 24)):=by rw [nearH,if_neg z]
    have e5:p2 (5-(p+24))=p2 (-19-p):=by congr 1;omega
    have d0:=rlL (p2_pos (-(p+24)))
    cases R:rightV (angT r p) with
    | true =>
      have f:=right_fits R
      have F1:=fault_of (p:=p+24) X.p.1 f.1 X.s1 (by omega) (by omega)
      have F2:=fault_of (p:=p+24) X.p.2 f.2.1 X.s2 (by omega) (by omega)
      have eN:nearT r p=bothR (angT r p) (p+24):=by rw [nearT,if_neg z,if_pos R]
      have PV:∀ A,-20000≤A→p2 A≤(r.m:Rat)*p2 r.e→rightV (trimV (sinesV (onesV (angT r p)) (p+24)) (p+24+8))=true∧VM (p2 (-19-p)) (p2 (A-5)) (p2 5) (trimV (sinesV (onesV (angT r p)) (p+24)) (p+24+8)):=fun A a0 hA=>by
        rw [←e5]
        exact pair_vm X.p F1 F2 N (M A hA) a0 d0 Rat.le_refl
      rcases pair_ok X.p R F1 F2 (.inr N) d0 Rat.le_refl with ⟨e,ns⟩|⟨e,K⟩
      · refine .inr ⟨by rw [eN,e],rz,Rat.not_le.1 fun k=>?_⟩
        rw [(PV _ (by omega) k).1] at ns;cases ns
      · rw [e5] at K
        refine .inl ⟨_,_,r.rv*c,by rw [eN,e],?_,fun h=>absurd h rz,fun h=>(PV (-16384) (by omega) h).2,fun A a0 h=>(PV A a0 h).2⟩
        rw [hH]
        exact ⟨K.s Ic.1 Ic.2,K.c Ic.1 Ic.2,US.1,UC.1,US.2 _ Jc.1 Jc.2,UC.2 _ Jc.1 Jc.2,K.cn,K.c0,K.c1⟩
    | false =>
      refine .inr ⟨by rw [nearT,if_neg z,if_neg (by rw [R];simp)],rz,Rat.not_le.1 fun k=>?_⟩
      have V:VM (p2 (-(p+24))) (p2 (-16384)) (p2 0) (angT r p):=by
        rw [p2_zero]
        rcases N with n | n
        · have:p2 (-16384)≤(angT r p).lo.rv:=by
            rcases M _ k with m | m
            · exact m
            · have:=p2_pos (-16384);have:=n.1;have:=n.2.1;exfalso;grind
          exact .inl ⟨p2_pos _,this,X.s2.1,n⟩
        · have:p2 (-16384)≤-(angT r p).hi.rv:=by
            rcases M _ k with m | m
            · have:=p2_pos (-16384);have:=n.1;have:=n.2.1;exfalso;grind
            · exact m
          exact .inr ⟨p2_pos _,this,by have:=X.s1.2;grind,n⟩
      have:=cut_right (w:=prodV (pointV r) (constPi (p+48))) (p:=p+40) (prodV_p _ _) V (by omega) (by omega) (by omega) (by omega)
      have:rightV (angT r p)=true:=this
      rw [R] at this;cases this
def turnP(k:Int)(b:Vx×Vx):Vx×Vx:=if k=1 then (b.2,turnV b.1) else if k=2 then (turnV b.1,turnV b.2) else if k=3 then (turnV b.2,b.1) else b
theorem Enc.turn{s:Nat→Rat}{U:Vx}(hU:U.P)(h:Enc s U.lo.rv U.hi.rv):Enc (fun n=>-s n) (turnV U).lo.rv (turnV U).hi.rv:=by
  obtain ⟨r1,r2⟩:=turn_rv hU
  rw [r1,r2];exact h.neg
theorem trim_in2{v:Vx}{p:Int}{x:Rat}(hv:v.P)(hp:1≤p)(h:InV v x):InV (trimV v p) x:=by
  obtain ⟨b1,b2⟩:=trim_best hv hp
  have:=b1.2.1
  have:=b2.2.1
  exact ⟨by have:=h.1;grind,by have:=h.2;grind⟩
theorem tur_small{x:Dx}(hx:0≤x.m)(h:(turR x).2.2=0):OneF (turR x).2.1∧-(1/4)≤(turR x).2.1.rv∧(turR x).2.1.rv≤1/4∧0≤(turR x).1∧(turR x).1≤3:=by
  have fy:OneF (oneD x):=oneD_f hx
  obtain ⟨_,_,_,e⟩:=tur_ok h
  have k1:(turR x).1=by4I (turN (oneD x)):=by rw [e]
  have k2:(turR x).2.1=turX (oneD x):=by rw [e]
  have n1:=turN_near fy.p
  have r:=turX_rv fy.p
  rw [k1,k2]
  refine ⟨lessD_f oneD_p,by rw [r];have:=n1.1;grind,by rw [r];have:=n1.2.1;grind,?_,?_⟩
  · unfold by4I;omega
  · unfold by4I;omega
theorem far_of{r:Dx}(h:OneF r)(h0:r.rv≠0)(hs:(r.m:Rat)*p2 r.e<p2 (-16384)):farB r=true:=by
  have z:r.zeroB=false:=zeroB_false.2 (rv_ne h0)
  have m0:=h.p
  have g:=amt_ge (m:=r.m) (e:=r.e) (by have:=rv_ne h0;omega)
  have:=p2_lt_iff.1 (show p2 (r.e+(blen r.m:Int)-1)<p2 (-16384) by grind)
  have t:topD (oneD r) < -16384:=by rw [oneD_id h];exact this
  rw [farB,z,show ltI (topD (oneD r)) (-16384)=true from ltI_true.2 t];rfl
def ofTp(x:Dx)(p:Int):(Vx×Vx)×Int :=
  if (turR x).2.2=0 then (if (nearT (turR x).2.1 p).2=0 then (turnP (turR x).1 (nearT (turR x).2.1 p).1,0) else ((zeroIv,zeroIv),(nearT (turR x).2.1 p).2)) else ((zeroIv,zeroIv),(turR x).2.2)
def bothTp(x:Dx)(p:Int):(Vx×Vx)×Int :=
  if 8≤p∧p≤2048 then (if (ofTp x p).2=0 then ((trimV (ofTp x p).1.1 (p+8),trimV (ofTp x p).1.2 (p+8)),0) else ((zeroIv,zeroIv),(ofTp x p).2)) else ((zeroIv,zeroIv),2)
theorem fits_bd2{z:Dx}(h:OneF z)(hb:z.Bd 32768 32000):z.fitsB=true:=by
  have m0:=h.p
  have l:=hb.lo
  have u:=hb.hi
  have w:=ws_len_blen m0
  have g:greatB z.m=false:=by unfold greatB;exact decide_eq_false (by omega)
  unfold Dx.fitsB
  rw [g,decide_eq_true (show -32768≤z.e by omega),decide_eq_true (show z.e≤32768 by omega)];rfl
def turS(k:Int)(b:(Nat→Rat)×(Nat→Rat)):(Nat→Rat)×(Nat→Rat) :=
  if k=1 then (b.2,fun n=>-b.1 n) else if k=2 then (fun n=>-b.1 n,fun n=>-b.2 n) else if k=3 then (fun n=>-b.2 n,b.1) else b
theorem cq_of{x:Dx}{p:Int}(h:(quarR x p).2.2=0):condQ x p:=by
  rcases quar_cases x p with ⟨_,q⟩|⟨c,_⟩|⟨c,_⟩|⟨c,_⟩|⟨c,_⟩
  · rw [q] at h;cases h
  all_goals exact c
theorem near_bd2{x c z:Rat}{n:Int}(c0:3/2≤c)(c1:c≤8/5)(h:NearI n (x*c⁻¹))(hz:z=x-(n:Rat)*c):-(4/5)≤z∧z≤4/5:=by
  have e:x=x*c⁻¹*c:=by rw [Rat.mul_assoc,Rat.inv_mul_cancel c (by grind),Rat.mul_one]
  have h1:=h.1
  have h2:=h.2.1
  have m1:=rmR h1 (show 0≤c by grind)
  have m2:=rmR h2 (show 0≤c by grind)
  rw [←e] at m1 m2
  constructor<;>grind
theorem narrow_facts2{v:Vx}{p:Int}(hv:v.P)(h:narrowB v p=true):0≤p∧rightV v=true∧v.lo.sgn=v.hi.sgn ∧
    (v.lo.sgn=0∨(lessD v.hi v.lo).zeroB=true∨((lessD v.hi v.lo).zeroB=false∧v.lo.sgn≠0∧p2 (-32768)≤(lessD v.hi v.lo).rv∧(if v.lo.sgn<0 then absD v.hi else absD v.lo).rv<p2 98304∧(lessD v.hi v.lo).rv*p2 p≤(if v.lo.sgn<0 then absD v.hi else absD v.lo).rv)):=by
  unfold narrowB at h
  simp only [Bool.and_eq_true] at h
  obtain ⟨p0,hr,hn⟩:=h
  have fv:=right_fits hr
  refine ⟨leI_true.1 p0,hr,?_⟩
  unfold narrowV at hn
  by_cases h1:v.lo.sgn=v.hi.sgn
  · refine ⟨h1,?_⟩
    rw [if_neg (by omega)] at hn
    by_cases h2:v.lo.sgn=0
    · exact .inl h2
    · rw [if_neg h2] at hn
      cases h3:(lessD v.hi v.lo).zeroB with
      | true=>exact .inr (.inl rfl)
      | false =>
        rw [h3,if_neg (by simp)] at hn
        have hw:=wide_ge hv hr h3
        have hl:(if v.lo.sgn<0 then absD v.hi else absD v.lo).rv<p2 98304:=by
          split
          · rw [rv_abs hv.2];exact fits_lt fv.2.1
          · rw [rv_abs hv.1];exact fits_lt fv.1
        refine .inr (.inr ⟨rfl,h2,hw,hl,?_⟩)
        rw [narrowX_eq lessD_p (by split<;>exact absD_p) hw hl,decide_eq_true_eq] at hn
        exact hn
  · rw [if_pos h1] at hn;simp at hn
theorem nar_of_narrow{v:Vx}{p:Int}(hv:v.P)(h:narrowB v p=true):VN (p2 (-p)) v:=by
  obtain ⟨p0,hr,sg,hc⟩:=narrow_facts2 hv h
  have le:=right_le hr
  have q:=p2_pos p
  have q':=p2_pos (-p)
  have i:=p2_neg p
  have s1:=sgn_rv hv.1
  have s2:=sgn_rv hv.2
  have wr:(lessD v.hi v.lo).rv=v.hi.rv-v.lo.rv:=rv_less hv.2 hv.1
  obtain ⟨al1,al2⟩:=rv_amt hv.1
  obtain ⟨ah1,ah2⟩:=rv_amt hv.2
  rcases s1 with ⟨a,b⟩|⟨a,b⟩|⟨a,b⟩
  · -- zero or above,by the kit's order of cases
    rcases s2 with ⟨c,d⟩|⟨c,d⟩|⟨c,d⟩<;>first | omega | skip
    all_goals first
      | exact .inl ⟨b,d⟩
      | (refine .inr (.inl ⟨b,le,?_⟩)
         rcases hc with hc | hc | ⟨_,_,_,_,hc⟩
         · omega
         · have:=(zeroB_rv lessD_p).1 hc
           have:=rmN (rlL q') (rlL b)
           grind
         · rw [if_neg (by omega),rv_abs hv.1,←al1 (rlL b),wr] at hc
           have m:=rmL hc (rlL q')
           have e:p2 (-p)*((v.hi.rv-v.lo.rv)*p2 p)=v.hi.rv-v.lo.rv:=by rw [show p2 (-p)*((v.hi.rv-v.lo.rv)*p2 p)=(v.hi.rv-v.lo.rv)*(p2 (-p)*p2 p) by grind,i,Rat.mul_one]
           grind)
  · rcases s2 with ⟨c,d⟩|⟨c,d⟩|⟨c,d⟩<;>first | omega | skip
    all_goals first
      | exact .inl ⟨b,d⟩
      | (refine .inr (.inl ⟨b,le,?_⟩)
         rcases hc with hc | hc | ⟨_,_,_,_,hc⟩
         · omega
         · have:=(zeroB_rv lessD_p).1 hc
           have:=rmN (rlL q') (rlL b)
           grind
         · rw [if_neg (by omega),rv_abs hv.1,←al1 (rlL b),wr] at hc
           have m:=rmL hc (rlL q')
           have e:p2 (-p)*((v.hi.rv-v.lo.rv)*p2 p)=v.hi.rv-v.lo.rv:=by rw [show p2 (-p)*((v.hi.rv-v.lo.rv)*p2 p)=(v.hi.rv-v.lo.rv)*(p2 (-p)*p2 p) by grind,i,Rat.mul_one]
           grind)
  · rcases s2 with ⟨c,d⟩|⟨c,d⟩|⟨c,d⟩<;>first | omega | skip
    refine .inr (.inr ⟨by grind,by grind,?_⟩)
    rcases hc with hc | hc | ⟨_,_,_,_,hc⟩
    · omega
    · have:=(zeroB_rv lessD_p).1 hc
      have:=rmN (rlL q') (show 0≤-v.hi.rv by grind)
      grind
    · rw [if_pos (by omega),rv_abs hv.2,←ah2 (rlL d),wr] at hc
      have m:=rmL hc (rlL q')
      have e:p2 (-p)*((v.hi.rv-v.lo.rv)*p2 p)=v.hi.rv-v.lo.rv:=by rw [show p2 (-p)*((v.hi.rv-v.lo.rv)*p2 p)=(v.hi.rv-v.lo.rv)*(p2 (-p)*p2 p) by grind,i,Rat.mul_one]
      grind
theorem nearT_half{r:Dx}(hr:0≤r.m)(h1:-(1/4)≤r.rv)(h2:r.rv≤1/4){p:Int}(p0:8≤p)(p1:p≤2064){S C:Vx}(e:nearT r p=((S,C),0)){c:Rat}(hc:InV (constPi (p+48)) c) :
    Half (p2 (-19-p)) S (sinS (r.rv*c))∧Half (p2 (-19-p)) C (cosS (r.rv*c)):=by
  have e0:=rlL (p2_pos (-19-p))
  by_cases z:r.zeroB=true
  · have rz:=(zeroB_rv hr).1 z
    rw [nearT,if_pos z] at e
    cases e
    rw [rz,Rat.zero_mul]
    exact ⟨zero_half,(one_half e0).1⟩
  · have rz:r.rv≠0:=fun h=>z ((zeroB_rv hr).2 h)
    obtain ⟨X,N,I,M⟩:=angT_ok hr rz h1 h2 p0 (show p≤8000 by omega)
    have Ic:=I c hc
    cases R:rightV (angT r p) with
    | true =>
      have f:=right_fits R
      have F1:=fault_of (p:=p+24) X.p.1 f.1 X.s1 (by omega) (by omega)
      have F2:=fault_of (p:=p+24) X.p.2 f.2.1 X.s2 (by omega) (by omega)
      rw [nearT,if_neg z,if_pos R] at e
      have e5:p2 (5-(p+24))=p2 (-19-p):=by congr 1;omega
      rcases pair_ok X.p R F1 F2 (.inr N) (rlL (p2_pos _)) Rat.le_refl with ⟨g,_⟩|⟨g,K⟩
      · rw [g] at e;cases e
      · rw [g] at e
        cases e
        rw [e5] at K
        exact ⟨K.s Ic.1 Ic.2,K.c Ic.1 Ic.2⟩
    | false =>
      rw [nearT,if_neg z,if_neg (by rw [R];simp)] at e
      cases e
theorem turn_half{η:Rat}{S C:Vx}{s c:Nat→Rat}(h:Half η S s)(g:Half η C c)(k:Int):Half η (turnP k (S,C)).1 (turS k (s,c)).1∧Half η (turnP k (S,C)).2 (turS k (s,c)).2:=by
  unfold turnP turS
  by_cases h1:k=1
  · rw [if_pos h1,if_pos h1];exact ⟨g,h.turn⟩
  · rw [if_neg h1,if_neg h1]
    by_cases h2:k=2
    · rw [if_pos h2,if_pos h2];exact ⟨h.turn,g.turn⟩
    · rw [if_neg h2,if_neg h2]
      by_cases h3:k=3
      · rw [if_pos h3,if_pos h3];exact ⟨g.turn,h⟩
      · rw [if_neg h3,if_neg h3];exact ⟨h,g⟩
theorem invS_e{n w:Int}(h:InvOk n w):1≤(invS n w true).e:=by
  obtain ⟨_,_,_,_,a,_,b,_⟩:=invR_bd h
  show 1≤(invR n w 0).e+(invR n w 1).e
  omega
theorem piF_pos{w:Int}(w0:32≤w)(w1:w≤65536):1≤(piF w).e:=by
  have a:=invS_e (n:=5) (w:=w) ⟨by decide,by decide,w0,w1⟩
  have b:=invS_e (n:=239) (w:=w) ⟨by decide,by decide,w0,w1⟩
  show 1≤(invS 5 w true).e*16+(invS 239 w true).e*4
  omega
theorem ivF_lt{z:Fx}{w:Int}(a0:0≤z.a)(e1:1≤z.e):(ivF z w).lo.rv<(ivF z w).hi.rv:=by
  obtain ⟨r1,r2⟩:=ivF_rv (w:=w) a0 (show 0≤z.e by omega)
  rw [r1,r2]
  have c:(z.a:Rat)<((z.a+z.e:Int):Rat):=by exact_mod_cast (show z.a<z.a+z.e by omega)
  exact Rat.mul_lt_mul_of_pos_right c (p2_pos _)
theorem trim_lt{v:Vx}{p:Int}(hv:v.P)(hp:1≤p)(h:v.lo.rv<v.hi.rv):(trimV v p).lo.rv<(trimV v p).hi.rv:=by
  have a:=(trim_in2 hv hp (show InV v v.lo.rv from ⟨Rat.le_refl,rlL h⟩)).1
  have b:=(trim_in2 hv hp (show InV v v.hi.rv from ⟨rlL h,Rat.le_refl⟩)).2
  grind
theorem scale_lt{v:Vx}(hv:v.P)(h:v.lo.rv<v.hi.rv):(scaleV v (-1)).lo.rv<(scaleV v (-1)).hi.rv:=by
  show (shiftD v.lo (-1)).rv<(shiftD v.hi (-1)).rv
  rw [rv_shift hv.1,rv_shift hv.2]
  exact Rat.mul_lt_mul_of_pos_right h (p2_pos _)
theorem halfP_lt{w:Int}(w0:8≤w)(w1:w≤65000):(halfP w).lo.rv<(halfP w).hi.rv:=by
  obtain ⟨a0,e0,_,_⟩:=piF_e (w:=w+64) (by omega) (by omega)
  exact scale_lt (constPi_iv w0 w1).p (trim_lt (encPi_iv w0 w1).p (by omega) (ivF_lt a0 (piF_pos (by omega) (by omega))))
theorem rest_zero{h:Vx}(hp:h.P)(hl:h.lo.rv<h.hi.rv){x:Dx}(hx:0≤x.m){w:Int}(hw:1≤w)(z1:(restW h x w).lo.rv=0)(z2:(restW h x w).hi.rv=0):x.rv=0:=by
  have a:=rest_any hp hx hw (show InV h h.lo.rv from ⟨Rat.le_refl,rlL hl⟩)
  have b:=rest_any hp hx hw (show InV h h.hi.rv from ⟨rlL hl,Rat.le_refl⟩)
  obtain ⟨a1,a2⟩:=a
  obtain ⟨b1,b2⟩:=b
  rw [z1] at a1 b1
  rw [z2] at a2 b2
  have e:(nI h x w:Rat)*(h.hi.rv-h.lo.rv)=0:=by grind
  have n0:(nI h x w:Rat)=0:=by
    rcases Rat.mul_eq_zero.1 e with k | k
    · exact k
    · exfalso;grind
  rw [n0] at a1 a2;grind
theorem vn_off{δ:Rat}{v:Vx}(h:VN δ v)(z:¬ (v.lo.rv=0∧v.hi.rv=0)):NarV δ v:=by
  rcases h with h | h
  · exact absurd h z
  · exact h
theorem quar_off{x:Dx}(hx:0≤x.m)(h0:x.rv≠0){p:Int}(h:(quarR x p).2.2=0):NarV (p2 (-p)) (quarR x p).2.1∧∃ w,8≤w∧w≤8192∧(quarR x p).2.1=restW (halfP w) (oneD x) w:=by
  have ho:(oneD x).rv≠0:=by rw [rv_one hx];exact h0
  rcases quar_cases x p with ⟨_,e⟩|⟨_,z,_⟩|⟨_,_,_,e⟩|⟨_,_,_,e⟩|⟨c,z,t,w,q⟩
  · rw [e] at h;cases h
  · exact absurd (rv_zero z) ho
  · rw [e] at h;cases h
  · rw [e] at h;cases h
  · have e:(quarR x p).2.1=restW (halfP w) (oneD x) w:=by rw [q.eq]
    have hf:=halfP_hf (w:=w) q.w0 (by have:=q.w1;omega)
    have rp:(restW (halfP w) (oneD x) w).P:=⟨cutD_p,cutD_p⟩
    have nb:narrowB (restW (halfP w) (oneD x) w) p=true:=by
      have c2:=c.2.1
      rw [narrowB,q.right,q.nar,leI_true.2 (show 0≤p by omega)];rfl
    refine ⟨?_,w,q.w0,q.w1,e⟩
    rw [e]
    exact vn_off (nar_of_narrow rp nb) fun z=>ho (rest_zero hf.p (halfP_lt q.w0 (by have:=q.w1;omega)) oneD_p (by have:=q.w0;omega) z.1 z.2)
theorem bd_low{d:Dx}{L T:Int}(hd:0≤d.m)(hb:d.Bd L T)(h0:d.rv≠0):p2 (-L)≤(d.m:Rat)*p2 d.e:=by
  have m1:1≤d.m:=by have:=rv_ne h0;omega
  have a:((1:Int):Rat)≤(d.m:Rat):=by exact_mod_cast m1
  have e1:((1:Int):Rat)=1:=rfl
  rw [e1] at a
  have b:=p2_le hb.lo
  have m:=rmR a (rlL (p2_pos d.e))
  grind
def Ab(x K:Rat):Prop:=-K≤x∧x≤K
theorem sqN(z:Rat):0≤z*z:=by
  rcases (show 0≤z∨0≤-z by grind) with q | q
  · exact rmN q q
  · have:=rmN q q;grind
theorem Ab.mono{x K L:Rat}(h:Ab x K)(k:K≤L):Ab x L:=⟨by have:=h.1;grind,by have:=h.2;grind⟩
theorem Ab.nonneg{x K:Rat}(h:Ab x K):0≤K:=by have:=h.1;have:=h.2;grind
theorem Ab.add{x y K L:Rat}(h:Ab x K)(k:Ab y L):Ab (x+y) (K+L):=by
  obtain ⟨a,b⟩:=h;obtain ⟨c,d⟩:=k;exact ⟨by grind,by grind⟩
theorem Ab.neg{x K:Rat}(h:Ab x K):Ab (-x) K:=by obtain ⟨a,b⟩:=h;exact ⟨by grind,by grind⟩
theorem Ab.sub{x y K L:Rat}(h:Ab x K)(k:Ab y L):Ab (x-y) (K+L):=by
  obtain ⟨a,b⟩:=h;obtain ⟨c,d⟩:=k;exact ⟨by grind,by grind⟩
theorem Ab.mul{x y K L:Rat}(h:Ab x K)(k:Ab y L):Ab (x*y) (K*L):=by
  have n:=h.nonneg
  obtain ⟨a,b⟩:=h;obtain ⟨c,d⟩:=k
  have r1:=rmN (show 0≤K-x by grind) (show 0≤L-y by grind)
  have r2:=rmN (show 0≤K+x by grind) (show 0≤L+y by grind)
  have r3:=rmN (show 0≤K-x by grind) (show 0≤L+y by grind)
  have r4:=rmN (show 0≤K+x by grind) (show 0≤L-y by grind)
  exact ⟨by grind,by grind⟩
theorem Ab.zero{K:Rat}(h:0≤K):Ab 0 K:=⟨by grind,h⟩
theorem Ab.of_mul{c z K:Rat}(hc:0<c)(h:Ab (c*z) (c*K)):Ab z K:=by
  obtain ⟨a,b⟩:=h
  refine ⟨Rat.not_lt.1 fun k=>?_,Rat.not_lt.1 fun k=>?_⟩
  · have:=Rat.mul_pos hc (show 0 < -K-z by grind);grind
  · have:=Rat.mul_pos hc (show 0<z-K by grind);grind
theorem Ab.alt{x K:Rat}(h:Ab x K)(i:Nat):Ab (alt i*x) K:=by
  rcases alt_one i with e | e<;>rw [e]
  · rw [Rat.one_mul];exact h
  · have:=h.neg;rwa [show -1*x = -x by grind]
theorem Ab.congr{x y K:Rat}(h:Ab x K)(e:y=x):Ab y K:=e ▸ h
theorem Ab.sq{x K:Rat}(h:Ab x K):x*x≤K*K:=(h.mul h).2
theorem sum_ab{B:Rat}{b:Nat→Rat}(h:∀ i,Ab (b i) (B*hf i))(n:Nat):Ab (sumTo b n) (2*B):=by
  have:=Dec.tail_le (B:=B) (b:=b) h (Nat.zero_le n)
  rw [hf_zero] at this
  have e:sumTo b 0=0:=rfl
  rw [e] at this
  exact ⟨by grind,by grind⟩
theorem nat_pos2(j:Nat):(0:Rat)<((j+2:Nat):Rat):=nat_pos (j+1)
theorem cast_add2(j:Nat):((j+2:Nat):Rat)=(j:Rat)+2:=by
  have:=Rat.natCast_add j 2
  exact this
theorem cast_nonneg(j:Nat):(0:Rat)≤(j:Rat):=by exact_mod_cast Nat.zero_le j
theorem hf_nonneg(k:Nat):0≤hf k:=rlL (hf_pos k)
theorem dpw_ab{t:Rat}(h:Ab t 1):∀ k,Ab (dpw t k) (2*hf k)
  | 0=>by rw [hf_zero];exact ⟨by show _≤(1:Rat);grind,by show (1:Rat)≤_;grind⟩
  | 1=>by
    have e:dpw t 1=t:=by
      have h:=dpw_succ t 0
      have e:((0+1:Nat):Rat)=1:=rfl
      rw [e] at h
      have:dpw t 0=1:=rfl
      rw [this] at h
      have h2:dpw t (0+1)=dpw t 1:=rfl
      grind
    rw [e,hf_one];exact h
  | k+2=>by
    have ih:=dpw_ab h (k+1)
    have s:=dpw_succ t (k+1)
    refine Ab.of_mul (nat_pos2 k) ?_
    have m:=h.mul ih
    rw [Rat.one_mul,←s] at m
    refine m.mono ?_
    have e:=hf_succ (k+1)
    have c:=cast_add2 k
    have p:=rmN (cast_nonneg k) (hf_nonneg (k+1+1))
    show 2*hf (k+1)≤((k+2:Nat):Rat)*(2*hf (k+1+1))
    rw [c];grind
def dE(a d:Rat)(j:Nat):Rat:=dpw (a+d) (j+1)-dpw a (j+1)-d*dpw a j
theorem dE_succ(a d:Rat)(j:Nat):((j+2:Nat):Rat)*dE a d (j+1)=d*d*dpw a j+(a+d)*dE a d j:=by
  have s1:=dpw_succ (a+d) (j+1)
  have s2:=dpw_succ a (j+1)
  have s3:=dpw_succ a j
  have c2:=cast_add2 j
  have c1:((j+1:Nat):Rat)=(j:Rat)+1:=Rat.natCast_add j 1
  have c3:((j+1+1:Nat):Rat)=(j:Rat)+2:=c2
  rw [c3] at s1 s2
  rw [c1] at s3
  rw [c2]
  unfold dE
  generalize dpw (a+d) (j+1+1)=X at *
  generalize dpw a (j+1+1)=Y at *
  generalize dpw (a+d) (j+1)=Z at *
  generalize dpw a (j+1)=U at *
  generalize dpw a j=V at *
  grind
theorem dE_ab{a d:Rat}(ha:Ab a 1)(hd:Ab (a+d) 1):∀ j,Ab (dE a d j) (4*(d*d)*hf j)
  | 0=>by
    have e:∀ t:Rat,dpw t 1=t:=fun t=>by
      have h:=dpw_succ t 0
      have e:((0+1:Nat):Rat)=1:=rfl
      rw [e] at h
      have:dpw t 0=1:=rfl
      rw [this] at h
      have h2:dpw t (0+1)=dpw t 1:=rfl
      grind
    have z:dE a d 0=0:=by
      show dpw (a+d) 1-dpw a 1-d*1=0
      rw [e,e];grind
    rw [z,hf_zero]
    have:=sqN d
    exact Ab.zero (by grind)
  | j+1=>by
    have ih:=dE_ab ha hd j
    have s:=dE_succ a d j
    refine Ab.of_mul (nat_pos2 j) ?_
    rw [s]
    have q:=sqN d
    have dd:Ab (d*d) (d*d):=⟨by grind,by grind⟩
    have m1:=dd.mul (dpw_ab ha j)
    have m2:=hd.mul ih
    have e:=hf_succ j
    have c:=cast_add2 j
    cases j with
    | zero =>
      have z:dE a d 0=0:=by
        have:=ih
        have e:∀ t:Rat,dpw t 1=t:=fun t=>by
          have h:=dpw_succ t 0
          have e:((0+1:Nat):Rat)=1:=rfl
          rw [e] at h
          have:dpw t 0=1:=rfl
          rw [this] at h
          have h2:dpw t (0+1)=dpw t 1:=rfl
          grind
        show dpw (a+d) 1-dpw a 1-d*1=0
        rw [e,e];grind
      rw [z]
      rw [hf_zero] at m1
      have z2:(a+d)*0=0:=Rat.mul_zero _
      rw [z2]
      refine (m1.add (Ab.zero (K:=0) Rat.le_refl)).mono ?_
      have p:=rmN q (hf_nonneg 1)
      have h1:=hf_one
      show d*d*(2*1)+0≤((0+2:Nat):Rat)*(4*(d*d)*hf (0+1))
      have c0:((0+2:Nat):Rat)=2:=rfl
      rw [c0]
      have e2:2*(4*(d*d)*hf (0+1))=4*(d*d)*(2*hf 1):=by grind
      rw [e2,h1];grind
    | succ i =>
      refine (m1.add m2).mono ?_
      rw [c]
      have p:=rmN q (hf_nonneg (i+1+1))
      have p2:=rmN (cast_nonneg i) p
      have c1:((i+1:Nat):Rat)=(i:Rat)+1:=Rat.natCast_add i 1
      rw [c1,e]
      grind
theorem hf_mono2(i:Nat):hf (2*i)≤hf i:=hf_le (by omega)
theorem hf_mono3(i:Nat):hf (2*i+1)≤hf i:=hf_le (by omega)
theorem sq_bd{d:Rat}{i j:Nat}(h:i≤j):4*(d*d)*hf j≤4*(d*d)*hf i:=by
  have:=rmL (hf_le h) (sqN d);grind
theorem sin_step{a d:Rat}(ha:Ab a 1)(hd:Ab (a+d) 1)(n:Nat):Ab (sinS (a+d) n-sinS a n-d*cosS a n) (8*(d*d)):=by
  have e:sinS (a+d) n-sinS a n-d*cosS a n=sumTo (fun i=>alt i*dE a d (2*i)) n:=by
    induction n with
    | zero=>show (0:Rat)-0-d*0=0;grind
    | succ n ih =>
      show (sinS (a+d) n+sinT (a+d) n)-(sinS a n+sinT a n)-d*(cosS a n+cosT a n)=sumTo _ n+_
      rw [←ih];unfold sinT cosT dE;grind
  rw [e]
  exact (sum_ab (B:=4*(d*d)) (fun i=>((dE_ab ha hd (2*i)).alt i).mono (sq_bd (by omega))) n).mono (by grind)
theorem cos_step{a d:Rat}(ha:Ab a 1)(hd:Ab (a+d) 1)(n:Nat):Ab (cosS (a+d) n-cosS a n+d*sinS a n) (8*(d*d)+4*hf n):=by
  have e:∀ n,cosS (a+d) (n+1)-cosS a (n+1)+d*sinS a n=sumTo (fun i=>-1*(alt i*dE a d (2*i+1))) n:=by
    intro n
    induction n with
    | zero=>show ((0:Rat)+1*1)-(0+1*1)+d*0=0;grind
    | succ n ih =>
      show (cosS (a+d) (n+1)+cosT (a+d) (n+1))-(cosS a (n+1)+cosT a (n+1))+d*(sinS a n+sinT a n)=sumTo _ n+_
      rw [←ih];unfold sinT cosT dE;rw [alt_succ,show 2*(n+1)=2*n+1+1 by omega];grind
  have b:=sum_ab (B:=4*(d*d)) (b:=fun i=>-1*(alt i*dE a d (2*i+1))) (fun i=>by
    have:=(((dE_ab ha hd (2*i+1)).alt i).mono (sq_bd (d:=d) (show i≤2*i+1 by omega))).neg
    exact this.congr (by grind)) n
  rw [←e] at b
  have t1:=(dpw_ab hd (2*n)).alt n
  have t2:=(dpw_ab ha (2*n)).alt n
  have h:=hf_mono2 n
  have u1:cosS (a+d) (n+1)=cosS (a+d) n+alt n*dpw (a+d) (2*n):=rfl
  have u2:cosS a (n+1)=cosS a n+alt n*dpw a (2*n):=rfl
  rw [u1,u2] at b
  refine ((b.sub (t1.sub t2)).congr (by grind)).mono (by grind)
theorem sin_ab{a:Rat}(ha:Ab a 1)(n:Nat):Ab (sinS a n) 4 :=
  (sum_ab (B:=2) (fun i=>((dpw_ab ha (2*i+1)).alt i).mono (by have:=hf_mono3 i;grind)) n).mono (by grind)
theorem cos_ab{a:Rat}(ha:Ab a 1)(n:Nat):Ab (cosS a n) 4 :=
  (sum_ab (B:=2) (fun i=>((dpw_ab ha (2*i)).alt i).mono (by have:=hf_mono2 i;grind)) n).mono (by grind)
def pw(x:Rat):Nat→Rat
  | 0=>1
  | k+1=>x*pw x k
def qw(x:Rat)(j:Nat):Rat:=pw x (j+1)*((j+1:Nat):Rat)⁻¹
theorem qw_mul(x:Rat)(j:Nat):((j+1:Nat):Rat)*qw x j=pw x (j+1):=by
  unfold qw
  have:=Rat.mul_inv_cancel ((j+1:Nat):Rat) (fun h=>by have:=nat_pos j;grind)
  grind
theorem pw_ab{x:Rat}(h:Ab x (1/4)):∀ k,Ab (pw x k) (hf (2*k))
  | 0=>by show Ab 1 (hf 0);rw [hf_zero];exact ⟨by grind,by grind⟩
  | k+1=>by
    have m:=h.mul (pw_ab h k)
    refine m.mono ?_
    have e1:=hf_succ (2*k)
    have e2:=hf_succ (2*k+1)
    rw [show 2*(k+1)=2*k+1+1 by omega];grind
def qE(x d:Rat)(j:Nat):Rat:=qw (x+d) j-qw x j-d*pw x j
theorem pw_step(x d:Rat):∀ j:Nat,pw (x+d) (j+1)-pw x (j+1)-((j+1:Nat):Rat)*(d*pw x j)=((j+1:Nat):Rat)*qE x d j:=fun j=>by
  have s1:=qw_mul (x+d) j
  have s2:=qw_mul x j
  unfold qE
  rw [←s1,←s2];grind
theorem qE_succ(x d:Rat)(j:Nat):((j+2:Nat):Rat)*qE x d (j+1)=((j+1:Nat):Rat)*((x+d)*qE x d j+d*d*pw x j):=by
  have s1:=pw_step x d (j+1)
  have s0:=pw_step x d j
  have c2:=cast_add2 j
  have c1:((j+1:Nat):Rat)=(j:Rat)+1:=Rat.natCast_add j 1
  have c3:((j+1+1:Nat):Rat)=(j:Rat)+2:=c2
  rw [c3] at s1
  rw [c1] at s0 ⊢
  rw [c2,←s1]
  have e1:pw (x+d) (j+1+1)=(x+d)*pw (x+d) (j+1):=rfl
  have e2:pw x (j+1+1)=x*pw x (j+1):=rfl
  have e3:pw x (j+1)=x*pw x j:=rfl
  rw [e1,e2]
  rw [e3] at s0 ⊢
  generalize pw (x+d) (j+1)=Z at *
  generalize pw x j=V at *
  have:Z=x*V+((j:Rat)+1)*(d*V)+((j:Rat)+1)*qE x d j:=by grind
  rw [this];grind
theorem qE_ab{x d:Rat}(hx:Ab x (1/4))(hd:Ab (x+d) (1/4)):∀ j,Ab (qE x d j) (4*(d*d)*hf j)
  | 0=>by
    have e:∀ t:Rat,qw t 0=t:=fun t=>by
      have h:=qw_mul t 0
      have e:((0+1:Nat):Rat)=1:=rfl
      have e2:pw t (0+1)=t*1:=rfl
      rw [e,e2] at h;grind
    have z:qE x d 0=0:=by
      show qw (x+d) 0-qw x 0-d*1=0
      rw [e,e];grind
    rw [z,hf_zero]
    have:=sqN d
    exact Ab.zero (by grind)
  | j+1=>by
    have ih:=qE_ab hx hd j
    refine Ab.of_mul (nat_pos2 j) ?_
    rw [qE_succ]
    have q:=sqN d
    have dd:Ab (d*d) (d*d):=⟨by grind,by grind⟩
    have m1:=dd.mul ((pw_ab hx j).mono (hf_mono2 j))
    have m2:=hd.mul ih
    have e:=hf_succ j
    have p:=rmN q (hf_nonneg j)
    have c1:Ab ((j+1:Nat):Rat) ((j+2:Nat):Rat):=by
      have:=cast_add2 j
      have:=cast_nonneg j
      have c1:((j+1:Nat):Rat)=(j:Rat)+1:=Rat.natCast_add j 1
      exact ⟨by grind,by grind⟩
    have key:1/4*(4*(d*d)*hf j)+d*d*hf j≤4*(d*d)*hf (j+1):=by rw [e];grind
    exact c1.mul ((m2.add m1).mono key)
def atS(x:Rat)(n:Nat):Rat:=sumTo (fun k=>alt k*qw x (2*k)) n
def gS(x:Rat)(n:Nat):Rat:=sumTo (fun k=>alt k*pw x (2*k)) n
theorem at_step{x d:Rat}(hx:Ab x (1/4))(hd:Ab (x+d) (1/4))(n:Nat):Ab (atS (x+d) n-atS x n-d*gS x n) (8*(d*d)):=by
  have e:atS (x+d) n-atS x n-d*gS x n=sumTo (fun i=>alt i*qE x d (2*i)) n:=by
    induction n with
    | zero=>show (0:Rat)-0-d*0=0;grind
    | succ n ih =>
      show (atS (x+d) n+alt n*qw (x+d) (2*n))-(atS x n+alt n*qw x (2*n))-d*(gS x n+alt n*pw x (2*n))=sumTo _ n+_
      rw [←ih];unfold qE;grind
  rw [e]
  exact (sum_ab (B:=4*(d*d)) (fun i=>((qE_ab hx hd (2*i)).alt i).mono (sq_bd (by omega))) n).mono (by grind)
theorem gS_eq(x:Rat)(n:Nat):gS x n+x*x*gS x n=1-alt n*pw x (2*n):=by
  induction n with
  | zero=>show (0:Rat)+x*x*0=1-1*1;grind
  | succ n ih =>
    show (gS x n+alt n*pw x (2*n))+x*x*(gS x n+alt n*pw x (2*n))=_
    have e:pw x (2*(n+1))=x*(x*pw x (2*n)):=rfl
    rw [alt_succ,e];grind
theorem gS_ab{x:Rat}(hx:Ab x (1/4))(n:Nat):Ab (gS x n) 2 :=
  (sum_ab (B:=1) (fun i=>((pw_ab hx (2*i)).alt i).mono (by have:=hf_le (show i≤2*(2*i) by omega);grind)) n).mono (by grind)
theorem qw_ab{x:Rat}(hx:Ab x (1/4))(j:Nat):Ab (qw x j) (hf (2*(j+1))):=by
  refine Ab.of_mul (nat_pos j) ?_
  rw [qw_mul]
  refine (pw_ab hx (j+1)).mono ?_
  have c1:((j+1:Nat):Rat)=(j:Rat)+1:=Rat.natCast_add j 1
  have:=rmN (cast_nonneg j) (hf_nonneg (2*(j+1)))
  rw [c1];grind
theorem atS_ab{x:Rat}(hx:Ab x (1/4))(n:Nat):Ab (atS x n) (1/2) :=
  (sum_ab (B:=1/4) (fun i=>((qw_ab hx (2*i)).alt i).mono (by
    have e1:=hf_add 2 (4*i)
    have e2:hf 2=1/4:=by have a:=hf_succ 0;have b:=hf_succ 1;rw [hf_zero] at a;grind
    have l:=hf_le (show i≤4*i by omega)
    rw [show 2*(2*i+1)=2+4*i by omega,e1,e2];grind)) n).mono (by grind)
def vS(x:Rat)(n:Nat):Rat:=sinS (atS x n) n-x*cosS (atS x n) n
theorem vS_step{x d:Rat}(hx:Ab x (1/4))(hd:Ab (x+d) (1/4))(d0:0≤d)(d1:d≤1/4)(n:Nat):Ab (vS (x+d) n-vS x n*(1+d*(x*gS x n))) (400*(d*d)+8*hf n):=by
  have A:=atS_ab hx n
  have A':=atS_ab hd n
  have st:=at_step hx hd n
  have g:=gS_ab hx n
  have dn:Ab d d:=⟨by grind,by grind⟩
  have q:=rmN d0 d0
  have q4:=rmL d1 d0
  have h0:=hf_nonneg n
  have dl:Ab (atS (x+d) n-atS x n) (4*d):=((st.add (dn.mul g)).congr (by grind)).mono (by grind)
  have dq:=dl.sq
  have s1:=sin_step (A.mono (show (1:Rat)/2≤1 by decide +kernel)) (d:=atS (x+d) n-atS x n) (by rw [show atS x n+(atS (x+d) n-atS x n)=atS (x+d) n by grind];exact A'.mono (by decide +kernel)) n
  have c1:=cos_step (A.mono (show (1:Rat)/2≤1 by decide +kernel)) (d:=atS (x+d) n-atS x n) (by rw [show atS x n+(atS (x+d) n-atS x n)=atS (x+d) n by grind];exact A'.mono (by decide +kernel)) n
  rw [show atS x n+(atS (x+d) n-atS x n)=atS (x+d) n by grind] at s1 c1
  have bs:=sin_ab (A.mono (show (1:Rat)/2≤1 by decide +kernel)) n
  have bc:=cos_ab (A.mono (show (1:Rat)/2≤1 by decide +kernel)) n
  have e4:=gS_eq x n
  have b4:=((pw_ab hx (2*n)).alt n).mono (hf_le (show n≤2*(2*n) by omega))
  unfold vS
  generalize sinS (atS (x+d) n) n=s' at *
  generalize cosS (atS (x+d) n) n=c' at *
  generalize sinS (atS x n) n=s at *
  generalize cosS (atS x n) n=c at *
  generalize atS (x+d) n-atS x n=δ at *
  generalize gS x n=G at *
  generalize alt n*pw x (2*n)=r at *
  generalize hf n=H at *
  have k1:=(dn.mul bc).mul b4
  have k2:=st.mul (bc.add (hx.mul bs))
  have k3:=(dn.mul dl).mul bs
  have k4:=s1
  have k5:=hd.mul c1
  have t:=(((k2.sub k1).add k3).add k4).sub k5
  have dH:=rmR d1 h0
  refine (t.congr ?_).mono ?_
  · have e5:c=(G+x*x*G)*c+r*c:=by rw [e4];grind
    have e6:d*c=d*((G+x*x*G)*c+r*c):=by rw [←e5]
    grind
  · grind
theorem vS_zero(n:Nat):vS 0 n=0:=by
  have a:∀ k,pw 0 (k+1)=0:=fun k=>Rat.zero_mul _
  have z:∀ n,atS 0 n=0:=fun n=>by
    induction n with
    | zero=>rfl
    | succ n ih =>
      show atS 0 n+alt n*(pw 0 (2*n+1)*_)=0
      rw [ih,a];grind
  have s:∀ n,sinS 0 n=0:=fun n=>by
    induction n with
    | zero=>rfl
    | succ n ih =>
      show sinS 0 n+alt n*dpw 0 (2*n+1)=0
      rw [ih,dpw_zero];grind
  unfold vS
  rw [z,s];grind
theorem vS_steps{d:Rat}(d0:0≤d){N:Nat}(hN:(N:Rat)*d≤1/4)(n:Nat):∀ j:Nat,j≤N→Ab (vS ((j:Rat)*d) n) ((j:Rat)*(2*(400*(d*d)+8*hf n)))
  | 0,_=>by
    have e:((0:Nat):Rat)=0:=rfl
    rw [e,Rat.zero_mul,Rat.zero_mul,vS_zero];exact Ab.zero Rat.le_refl
  | j+1,hj=>by
    have ih:=vS_steps d0 hN n j (by omega)
    have c1:((j+1:Nat):Rat)=(j:Rat)+1:=Rat.natCast_add j 1
    have le:((j+1:Nat):Rat)*d≤(N:Rat)*d:=rmR (by exact_mod_cast hj) d0
    have j0:=rmN (cast_nonneg j) d0
    rw [c1] at le
    have hx:Ab ((j:Rat)*d) (1/4):=⟨by grind,by grind⟩
    have hd:Ab ((j:Rat)*d+d) (1/4):=⟨by grind,by grind⟩
    have st:=vS_step hx hd d0 (by grind) n
    have g:=gS_ab hx n
    have xg:=(hx.mul g).mono (show (1:Rat)/4*2≤1 by decide +kernel)
    have dn:Ab d d:=⟨by grind,by grind⟩
    have m:=ih.mul (dn.mul xg)
    have E0:0≤400*(d*d)+8*hf n:=by have:=rmN d0 d0;have:=hf_nonneg n;grind
    rw [c1,show ((j:Rat)+1)*d=(j:Rat)*d+d by grind]
    have t:=(st.add ih).add m
    refine (t.congr (by grind)).mono ?_
    have:=rmR (show (j:Rat)*d≤1/4 by grind) E0
    grind
theorem two_hf:∀ n:Nat,((2^n:Nat):Rat)*hf n=1
  | 0=>by rw [hf_zero];decide +kernel
  | n+1=>by
    have ih:=two_hf n
    have e:=hf_succ n
    have c:((2^(n+1):Nat):Rat)=((2^n:Nat):Rat)*2:=by rw [Nat.pow_succ];exact Rat.natCast_mul _ _
    rw [c];grind
theorem one_le_cast(n:Nat):(1:Rat)≤((n+1:Nat):Rat):=by
  have c1:((n+1:Nat):Rat)=(n:Rat)+1:=Rat.natCast_add n 1
  have:=cast_nonneg n
  rw [c1];grind
theorem of_nhf{K e:Rat}(K0:0≤K){n:Nat}(h:((n+1:Nat):Rat)*(K*hf (n+1))≤e):K*hf (n+1)≤e:=by
  have p:=rmN K0 (hf_nonneg (n+1))
  have:=rmR (one_le_cast n) p
  grind
theorem arch(K:Rat)(K0:0≤K){e:Rat}(he:0<e):∃ N:Nat,0<N∧K≤(N:Rat)*e:=by
  obtain ⟨M,hM⟩:=nhf_small K e he
  have h:=of_nhf K0 (hM (M+1) (by omega))
  refine ⟨2^(M+1),Nat.two_pow_pos _,?_⟩
  have t:=two_hf (M+1)
  have:=rmL h (cast_nonneg (2^(M+1)))
  generalize ((2^(M+1):Nat):Rat)=C at *
  have e2:C*(K*hf (M+1))=K*(C*hf (M+1)):=by grind
  rw [e2,t] at this;grind
theorem tan_at{x:Rat}(x0:0≤x)(x1:x≤1/4):Near (fun n=>sinS (atS x n) n) (fun n=>x*cosS (atS x n) n):=fun e he=>by
  obtain ⟨N,N1,hN⟩:=arch 200 (by decide +kernel) he
  have Np:(0:Rat)<(N:Rat):=by exact_mod_cast N1
  have im:=Rat.mul_inv_cancel (N:Rat) (fun h=>by grind)
  have ip:0<(N:Rat)⁻¹:=Rat.inv_pos.2 Np
  obtain ⟨d,hd⟩:∃ d:Rat,d=x*(N:Rat)⁻¹:=⟨_,rfl⟩
  have Nd:(N:Rat)*d=x:=by rw [hd];grind
  have d0:0≤d:=by rw [hd];exact rmN x0 (rlL ip)
  obtain ⟨M,hM⟩:=nhf_small (16*(N:Rat)) (e/2) (by grind)
  refine ⟨M+1,fun n hn=>?_⟩
  obtain ⟨m,rfl⟩:∃ m,n=m+1:=⟨n-1,by omega⟩
  have h2:=of_nhf (by grind) (hM (m+1) (by omega))
  have b:=vS_steps d0 (by rw [Nd];exact x1) (m+1) N (Nat.le_refl N)
  rw [Nd] at b
  have h1:800*(x*d)≤e/2:=by
    have m1:=rmR x1 d0
    have m2:=rmR x1 (rlL ip)
    have m3:=rmR hN (rlL ip)
    have e3:(N:Rat)*e*(N:Rat)⁻¹=e:=by grind
    rw [e3] at m3
    rw [←hd] at m2
    grind
  have e5:(N:Rat)*(2*(400*(d*d)+8*hf (m+1)))=800*(x*d)+16*(N:Rat)*hf (m+1):=by rw [←Nd];grind
  rw [e5] at b
  obtain ⟨b1,b2⟩:=b
  unfold vS at b1 b2
  exact ⟨by grind,by grind⟩
theorem dpw_ab2{t:Rat}(h:Ab t 2):∀ k,Ab (dpw t k) (16*hf k):=by
  have st:∀ (k:Nat) (K:Rat),Ab (dpw t k) K→Ab (((k+1:Nat):Rat)*dpw t (k+1)) (2*K):=fun k K i=>by rw [dpw_succ];exact h.mul i
  have e0:dpw t 0=1:=rfl
  have b0:Ab (dpw t 0) 1:=by rw [e0];exact ⟨by grind,by grind⟩
  have h1:hf 1=1/2:=by have:=hf_one;grind
  have h2:hf 2=1/4:=by have:=hf_succ 1;grind
  have h3:hf 3=1/8:=by have:=hf_succ 2;grind
  have b1:Ab (dpw t 1) 2:=Ab.of_mul (nat_pos 0) ((st 0 1 b0).mono (by rw [show ((0+1:Nat):Rat)=1 from rfl];grind))
  have b2:Ab (dpw t 2) 2:=Ab.of_mul (nat_pos 1) ((st 1 2 b1).mono (by rw [show ((1+1:Nat):Rat)=2 from rfl];grind))
  have b3:Ab (dpw t 3) 2:=Ab.of_mul (nat_pos 2) ((st 2 2 b2).mono (by rw [show ((2+1:Nat):Rat)=3 from rfl];grind))
  have rest:∀ k,Ab (dpw t (k+3)) (16*hf (k+3)):=fun k=>by
    induction k with
    | zero=>exact b3.mono (by rw [h3];decide +kernel)
    | succ k ih =>
      refine Ab.of_mul (nat_pos (k+3)) ((st (k+3) _ ih).mono ?_)
      have e:=hf_succ (k+3)
      have c:((k+3+1:Nat):Rat)=(k:Rat)+4:=Rat.natCast_add k 4
      have p:=rmN (cast_nonneg k) (hf_nonneg (k+3+1))
      rw [c,e];grind
  intro k
  match k with
  | 0=>exact b0.mono (by rw [hf_zero];decide +kernel)
  | 1=>exact b1.mono (by rw [h1];decide +kernel)
  | 2=>exact b2.mono (by rw [h2];decide +kernel)
  | k+3=>exact rest k
theorem cosT_dec2{t:Rat}(h:Ab t 2):Dec 16 (cosT t):=fun i=>((dpw_ab2 h (2*i)).alt i).mono (by have:=hf_mono2 i;grind)
theorem sinT_dec2{t:Rat}(h:Ab t 2):Dec 16 (sinT t):=fun i=>((dpw_ab2 h (2*i+1)).alt i).mono (by have:=hf_mono3 i;grind)
theorem sin_ab2{t:Rat}(h:Ab t 2)(n:Nat):Ab (sinS t n) 32:=(sum_ab (fun i=>sinT_dec2 h i) n).mono (by decide +kernel)
theorem cos_ab2{t:Rat}(h:Ab t 2)(n:Nat):Ab (cosS t n) 32:=(sum_ab (fun i=>cosT_dec2 h i) n).mono (by decide +kernel)
def sinQ(a:Nat→Rat)(n:Nat):Rat:=sinS (a n) n
def cosQ(a:Nat→Rat)(n:Nat):Rat:=cosS (a n) n
def AbS(a:Nat→Rat)(K:Rat):Prop:=∀ n,Ab (a n) K
theorem AbS.mono{a:Nat→Rat}{K L:Rat}(h:AbS a K)(k:K≤L):AbS a L:=fun n=>(h n).mono k
theorem AbS.sin{a:Nat→Rat}(h:AbS a 2):AbS (sinQ a) 32:=fun n=>sin_ab2 (h n) n
theorem AbS.cos{a:Nat→Rat}(h:AbS a 2):AbS (cosQ a) 32:=fun n=>cos_ab2 (h n) n
theorem AbS.mul{a b:Nat→Rat}{K L:Rat}(h:AbS a K)(k:AbS b L):AbS (fun n=>a n*b n) (K*L):=fun n=>(h n).mul (k n)
theorem AbS.add{a b:Nat→Rat}{K L:Rat}(h:AbS a K)(k:AbS b L):AbS (fun n=>a n+b n) (K+L):=fun n=>(h n).add (k n)
theorem Near.mul{s t s' t':Nat→Rat}{K L:Rat}(h:Near s t)(k:Near s' t')(hs:AbS s' K)(ht:AbS t L):Near (fun n=>s n*s' n) (fun n=>t n*t' n):=fun e he=>by
  have K0:=(hs 0).nonneg
  have L0:=(ht 0).nonneg
  obtain ⟨d,d0,hd⟩:∃ d:Rat,0<d∧d*K+L*d≤e:=by
    have p:0<K+L+1:=by grind
    have i:=Rat.inv_pos.2 p
    have im:=Rat.mul_inv_cancel (K+L+1) (fun h=>by grind)
    refine ⟨e*(K+L+1)⁻¹,Rat.mul_pos he i,?_⟩
    have q:=Rat.mul_pos he i
    have:e*(K+L+1)⁻¹*(K+L+1)=e:=by grind
    grind
  obtain ⟨N,h1⟩:=h d d0
  obtain ⟨M,k1⟩:=k d d0
  refine ⟨max N M,fun n hn=>?_⟩
  have a1:=h1 n (by omega)
  have b1:=k1 n (by omega)
  have A:Ab (s n-t n) d:=⟨by grind,by grind⟩
  have B:Ab (s' n-t' n) d:=⟨by grind,by grind⟩
  have m:=(A.mul (hs n)).add ((ht n).mul B)
  have m:=(m.congr (show s n*s' n-t n*t' n=(s n-t n)*s' n+t n*(s' n-t' n) by grind)).mono hd
  exact ⟨by have:=m.2;grind,by have:=m.1;grind⟩
theorem Near.congr{s t s' t':Nat→Rat}(h:Near s t)(e:∀ n,s' n=s n)(k:∀ n,t' n=t n):Near s' t':=by
  rw [show s'=s from funext e,show t'=t from funext k];exact h
theorem cos_add_bd{s t:Rat}(hs:Ab s 2)(ht:Ab t 2)(n:Nat):Ab (cosS (s+t) n-(cosS s n*cosS t n-sinS s n*sinS t n)) ((n:Rat)*(1536*hf n)):=by
  have hA:=cosT_dec2 hs
  have hB:=cosT_dec2 ht
  have hC:=sinT_dec2 hs
  have hD:=sinT_dec2 ht
  have e:∀ n,cosS (s+t) (n+1)=sumTo (conv (cosT s) (cosT t)) (n+1)-sumTo (conv (sinT s) (sinT t)) n:=by
    intro n
    induction n with
    | zero =>
      show (0:Rat)+1*1=0+(0+1*1*(1*1))-0
      grind
    | succ n ih =>
      have h:=cosT_add s t n
      show cosS (s+t) (n+1)+cosT (s+t) (n+1)=(sumTo (conv (cosT s) (cosT t)) (n+1)+conv (cosT s) (cosT t) (n+1))-(sumTo (conv (sinT s) (sinT t)) n+conv (sinT s) (sinT t) n)
      rw [ih,h];grind
  cases n with
  | zero =>
    have z:cosS (s+t) 0-(cosS s 0*cosS t 0-sinS s 0*sinS t 0)=0:=by show (0:Rat)-(0*0-0*0)=0;grind
    rw [z];exact Ab.zero (rmN (cast_nonneg 0) (by have:=hf_nonneg 0;grind))
  | succ n =>
    have p1:=prod_near hA hB (n+1)
    have p2:=prod_near hC hD (n+1)
    have c:=conv_small hC hD n
    have q:=hf_succ n
    have u:sumTo (conv (sinT s) (sinT t)) (n+1)=sumTo (conv (sinT s) (sinT t)) n+conv (sinT s) (sinT t) n:=rfl
    have v1:cosS s (n+1)=sumTo (cosT s) (n+1):=rfl
    have v2:cosS t (n+1)=sumTo (cosT t) (n+1):=rfl
    have v3:sinS s (n+1)=sumTo (sinT s) (n+1):=rfl
    have v4:sinS t (n+1)=sumTo (sinT t) (n+1):=rfl
    rw [e n,v1,v2,v3,v4]
    have r:((n+1:Nat):Rat)*(16*16*hf n)=((n+1:Nat):Rat)*(512*hf (n+1)):=by rw [q];grind
    rw [r] at c
    exact ⟨by grind,by grind⟩
theorem sin_add_bd{s t:Rat}(hs:Ab s 2)(ht:Ab t 2)(n:Nat):Ab (sinS (s+t) n-(cosS s n*sinS t n+sinS s n*cosS t n)) ((n:Rat)*(1536*hf n)):=by
  have p1:=prod_near (cosT_dec2 hs) (sinT_dec2 ht) n
  have p2:=prod_near (sinT_dec2 hs) (cosT_dec2 ht) n
  have e:sinS (s+t) n=sumTo (conv (cosT s) (sinT t)) n+sumTo (conv (sinT s) (cosT t)) n:=by
    rw [←sumTo_add];exact sumTo_congr fun i _=>sinT_add s t i
  have v1:cosS s n=sumTo (cosT s) n:=rfl
  have v2:cosS t n=sumTo (cosT t) n:=rfl
  have v3:sinS s n=sumTo (sinT s) n:=rfl
  have v4:sinS t n=sumTo (sinT t) n:=rfl
  have p:=rmN (cast_nonneg n) (hf_nonneg n)
  rw [e,v1,v2,v3,v4]
  exact ⟨by grind,by grind⟩
theorem near_bdQ{s t:Nat→Rat}{K:Rat}(h:∀ n,Ab (s n-t n) ((n:Rat)*(K*hf n))):Near s t:=near_of_bound (K:=K) fun n=>⟨(h n).2,(h n).1⟩
section
variable {a b:Nat→Rat} (ha:AbS a 2) (hb:AbS b 2)
include ha hb
theorem sinQ_add:Near (sinQ fun n=>a n+b n) (fun n=>cosQ a n*sinQ b n+sinQ a n*cosQ b n):=near_bdQ fun n=>sin_add_bd (ha n) (hb n) n
theorem cosQ_add:Near (cosQ fun n=>a n+b n) (fun n=>cosQ a n*cosQ b n-sinQ a n*sinQ b n):=near_bdQ fun n=>cos_add_bd (ha n) (hb n) n
end
theorem sinQ_neg(a:Nat→Rat)(n:Nat):sinQ (fun n=>-a n) n = -sinQ a n:=sinS_neg (a n) n
theorem cosQ_neg(a:Nat→Rat)(n:Nat):cosQ (fun n=>-a n) n=cosQ a n:=cosS_neg (a n) n
theorem AbS.neg{a:Nat→Rat}{K:Rat}(h:AbS a K):AbS (fun n=>-a n) K:=fun n=>(h n).neg
theorem circleQ{a:Nat→Rat}(ha:AbS a 2):Near (fun n=>cosQ a n*cosQ a n+sinQ a n*sinQ a n) (fun _=>1):=by
  have h:=cosQ_add ha ha.neg
  have h1:Near (cosQ fun n=>a n + -a n) (fun _=>1):=Near.of_eq 1 fun n hn=>by
    obtain ⟨k,rfl⟩:∃ k,n=k+1:=⟨n-1,by omega⟩
    show cosS (a (k+1) + -a (k+1)) (k+1)=1
    rw [Rat.add_neg_cancel,cosS_zero]
  refine Near.trans (Near.of_eq 0 fun n _=>?_) (h.symm.trans h1)
  rw [cosQ_neg,sinQ_neg];grind
theorem apow_pw(n:Int):∀ k,apow n k=pw (n:Rat)⁻¹ (2*k+1)
  | 0=>by show (n:Rat)⁻¹=(n:Rat)⁻¹*1;grind
  | k+1=>by
    have ih:=apow_pw n k
    show apow n k*((n*n:Int):Rat)⁻¹=(n:Rat)⁻¹*((n:Rat)⁻¹*pw (n:Rat)⁻¹ (2*k+1))
    have iv:((n*n:Int):Rat)⁻¹=(n:Rat)⁻¹*(n:Rat)⁻¹:=by
      rw [rcM]
      by_cases h:(n:Rat)=0
      · rw [h];decide +kernel
      · have a:=Rat.mul_inv_cancel (n:Rat) h
        have b:=Rat.mul_inv_cancel ((n:Rat)*(n:Rat)) (fun k=>by rcases Rat.mul_eq_zero.1 k with k | k<;>exact h k)
        generalize ((n:Rat)*(n:Rat))⁻¹=X at *
        generalize (n:Rat)⁻¹=Y at *
        have:X=X*((n:Rat)*Y)*((n:Rat)*Y):=by rw [a];grind
        grind
    rw [ih,iv];grind
theorem at_pw(n:Int)(k:Nat):atT n k=qw (n:Rat)⁻¹ (2*k):=by
  unfold atT qw
  rw [apow_pw]
  have:((2*(k:Int)+1:Int):Rat)=((2*k+1:Nat):Rat):=by
    have h:(2*(k:Int)+1:Int)=((2*k+1:Nat):Int):=by omega
    rw [h];rfl
  rw [this]
theorem sgn_at(n:Int)(m:Nat):sgnS true (atT n) m=atS (n:Rat)⁻¹ m:=sumTo_congr fun k _=>by rw [at_pw];rfl
def qpS(n:Nat):Rat:=1/4*piS n
theorem fifth:Ab ((1:Rat)/5) (1/4)∧Ab ((1:Rat)/239) (1/4):=⟨⟨by decide +kernel,by decide +kernel⟩,⟨by decide +kernel,by decide +kernel⟩⟩
def at5:Nat→Rat:=atS (1/5)
def at239:Nat→Rat:=atS (1/239)
theorem at5_ab:AbS at5 (1/2):=fun n=>atS_ab fifth.1 n
theorem at239_ab:AbS at239 (1/2):=fun n=>atS_ab fifth.2 n
theorem qpS_eq(n:Nat):qpS n=(at5 n+at5 n+(at5 n+at5 n)) + -at239 n:=by
  unfold qpS piS at5 at239
  rw [sgn_at,sgn_at]
  have e1:((5:Int):Rat)⁻¹=1/5:=by decide +kernel
  have e2:((239:Int):Rat)⁻¹=1/239:=by decide +kernel
  rw [e1,e2];grind
theorem twice_tan{a c:Nat→Rat}{q r K:Rat}(ha:AbS a 2)(hc:AbS c K)(h1:Near (sinQ a) (fun n=>q*c n))(h2:Near (cosQ a) (fun n=>r*c n)) :
    Near (sinQ fun n=>a n+a n) (fun n=>2*q*r*(c n*c n))∧Near (cosQ fun n=>a n+a n) (fun n=>(r*r-q*q)*(c n*c n)):=by
  have L:∀ z:Rat,∃ L,AbS (fun n=>z*c n) L:=fun z=>⟨_,fun n=>(show Ab z (z*z+1) from ⟨by have:=sqN (z+1);have:=sqN z;grind,by have:=sqN (z-1);have:=sqN z;grind⟩).mul (hc n)⟩
  obtain ⟨L1,l1⟩:=L q
  obtain ⟨L2,l2⟩:=L r
  have m1:=h1.mul h2 ha.cos l1
  have m2:=h2.mul h2 ha.cos l2
  have m3:=h1.mul h1 ha.sin l1
  have n1:Near (fun n=>cosQ a n*sinQ a n+sinQ a n*cosQ a n) (fun n=>2*q*r*(c n*c n)):=(m1.add m1).congr (fun n=>by grind) (fun n=>by grind)
  have n2:Near (fun n=>cosQ a n*cosQ a n-sinQ a n*sinQ a n) (fun n=>(r*r-q*q)*(c n*c n)):=(m2.sub m3).congr (fun _=>rfl) (fun n=>by grind)
  exact ⟨(sinQ_add ha ha).trans n1,(cosQ_add ha ha).trans n2⟩
theorem qp_like:Near (sinQ qpS) (cosQ qpS):=by
  have A2:AbS (fun n=>at5 n+at5 n) 1:=(at5_ab.add at5_ab).mono (by decide +kernel)
  have A4:AbS (fun n=>at5 n+at5 n+(at5 n+at5 n)) 2:=(A2.add A2).mono (by decide +kernel)
  have B:=at239_ab.neg.mono (show (1:Rat)/2≤2 by decide +kernel)
  have t5:Near (sinQ at5) (fun n=>1/5*cosQ at5 n):=tan_at (by decide +kernel) (by decide +kernel)
  have t9:Near (sinQ at239) (fun n=>1/239*cosQ at239 n):=tan_at (by decide +kernel) (by decide +kernel)
  have c5:=(at5_ab.mono (show (1:Rat)/2≤2 by decide +kernel)).cos
  have c9:=(at239_ab.mono (show (1:Rat)/2≤2 by decide +kernel)).cos
  obtain ⟨u1,u2⟩:=twice_tan (at5_ab.mono (show (1:Rat)/2≤2 by decide +kernel)) c5 t5 ((Near.refl (cosQ at5)).congr (fun _=>rfl) (fun n=>(Rat.one_mul _)))
  obtain ⟨v1,v2⟩:=twice_tan (A2.mono (by decide +kernel)) (c5.mul c5) u1 u2
  have w1:Near (sinQ fun n=>-at239 n) (fun n=>-(1/239*cosQ at239 n)):=t9.neg.congr (fun n=>sinQ_neg at239 n) (fun _=>rfl)
  have w2:Near (cosQ fun n=>-at239 n) (cosQ at239):=(Near.refl _).congr (fun n=>cosQ_neg at239 n) (fun _=>rfl)
  have bB:=c5.mul c5
  have bC:=bB.mul bB
  have bq:∀ z:Rat,∃ L,AbS (fun n=>z*(cosQ at5 n*cosQ at5 n*(cosQ at5 n*cosQ at5 n))) L:=fun z=>⟨_,fun n=>(show Ab z (z*z+1) from ⟨by have:=sqN (z+1);have:=sqN z;grind,by have:=sqN (z-1);have:=sqN z;grind⟩).mul (bC n)⟩
  obtain ⟨L1,l1⟩:=bq (2*(2*(1/5)*1)*(1*1-1/5*(1/5)))
  obtain ⟨L2,l2⟩:=bq ((1*1-1/5*(1/5))*(1*1-1/5*(1/5))-2*(1/5)*1*(2*(1/5)*1))
  have e:qpS=fun n=>at5 n+at5 n+(at5 n+at5 n) + -at239 n:=funext qpS_eq
  have S:=sinQ_add A4 B
  have C:=cosQ_add A4 B
  rw [e]
  have S':=S.trans ((v2.mul w1 B.sin l2).add (v1.mul w2 B.cos l1))
  have C':=C.trans ((v2.mul w2 B.cos l2).sub (v1.mul w1 B.sin l1))
  refine S'.trans (Near.trans (Near.of_eq 0 fun n _=>?_) C'.symm)
  grind
theorem sgn_nonneg{n:Int}(hn:5≤n)(m:Nat):0≤sgnS true (atT n) m :=
  alt_sum_nonneg (D:=atT n) (fun k=>atT_nonneg (by omega) k) (fun k=>by have h:=atT_fall hn k;have p:=atT_nonneg (n:=n) (by omega) (k+1);grind) m
theorem at_nonneg(n:Nat):0≤at5 n∧0≤at239 n:=by
  have h1:=sgn_nonneg (n:=5) (by decide +kernel) n
  have h2:=sgn_nonneg (n:=239) (by decide +kernel) n
  rw [sgn_at] at h1 h2
  rw [show ((5:Int):Rat)⁻¹=1/5 by decide +kernel] at h1
  rw [show ((239:Int):Rat)⁻¹=1/239 by decide +kernel] at h2
  exact ⟨h1,h2⟩
theorem qp_ab:AbS qpS 2:=fun n=>by
  have e:=qpS_eq n
  obtain ⟨a1,a2⟩:=at5_ab n
  obtain ⟨b1,b2⟩:=at239_ab n
  obtain ⟨c1,c2⟩:=at_nonneg n
  rw [e]
  exact ⟨by grind,by grind⟩
theorem sin_lip{a c δ:Rat}(ha:Ab a 1)(hc:Ab c 1)(hd:Ab (a-c) δ)(d1:δ≤1)(n:Nat):Ab (sinS a n-sinS c n) (12*δ):=by
  have s:=sin_step hc (d:=a-c) (by rw [show c+(a-c)=a by grind];exact ha) n
  rw [show c+(a-c)=a by grind] at s
  have q:=hd.sq
  have m:=hd.mul (cos_ab hc n)
  have d0:=hd.nonneg
  have dd:=rmL d1 d0
  exact ((s.add m).congr (by grind)).mono (by grind)
theorem cos_lip{a c δ:Rat}(ha:Ab a 1)(hc:Ab c 1)(hd:Ab (a-c) δ)(d1:δ≤1)(n:Nat):Ab (cosS a n-cosS c n) (12*δ+4*hf n):=by
  have s:=cos_step hc (d:=a-c) (by rw [show c+(a-c)=a by grind];exact ha) n
  rw [show c+(a-c)=a by grind] at s
  have q:=hd.sq
  have m:=hd.mul (sin_ab hc n)
  have d0:=hd.nonneg
  have dd:=rmL d1 d0
  exact ((s.sub m).congr (by grind)).mono (by grind)
theorem tail_ab{b:Nat→Rat}(h:∀ i,Ab (b i) (2*hf i)){n m:Nat}(k:n≤m):Ab (sumTo b m-sumTo b n) (4*hf n):=by
  have:=Dec.tail_le (B:=2) (b:=b) h k
  exact ⟨by grind,by grind⟩
theorem sin_tail{a:Rat}(ha:Ab a 1){n m:Nat}(k:n≤m):Ab (sinS a m-sinS a n) (4*hf n) :=
  tail_ab (fun i=>((dpw_ab ha (2*i+1)).alt i).mono (by have:=hf_mono3 i;grind)) k
theorem cos_tail{a:Rat}(ha:Ab a 1){n m:Nat}(k:n≤m):Ab (cosS a m-cosS a n) (4*hf n) :=
  tail_ab (fun i=>((dpw_ab ha (2*i)).alt i).mono (by have:=hf_mono2 i;grind)) k
theorem hf_small{e:Rat}(he:0<e):∃ N,∀ n,N≤n→16*hf n≤e:=by
  obtain ⟨M,hM⟩:=nhf_small 16 e he
  refine ⟨M+1,fun n hn=>?_⟩
  obtain ⟨m,rfl⟩:∃ m,n=m+1:=⟨n-1,by omega⟩
  exact of_nhf (by decide +kernel) (hM (m+1) (by omega))
theorem enc_along{f:Rat→Nat→Rat}(lip:∀ a c δ:Rat,Ab a 1→Ab c 1→Ab (a-c) δ→δ≤1→∀ n,Ab (f a n-f c n) (12*δ+4*hf n))(tail:∀ a:Rat,Ab a 1→∀ n m,n≤m→Ab (f a m-f a n) (4*hf n))
    {a:Nat→Rat} {lo hi L H:Rat} (ha:Enc a lo hi) (l:-(9/10)≤lo) (h:hi≤9/10) (hs:∀ x,lo≤x→x≤hi→Enc (f x) L H):Enc (fun n=>f (a n) n) L H:=fun e he=>by
  have le:=ha.self
  obtain ⟨δ,d0,d1,d2⟩:∃ δ:Rat,0<δ∧δ≤1/10∧48*δ≤e:=by
    by_cases c:e≤1
    · exact ⟨e/48,by grind,by grind,by grind⟩
    · exact ⟨1/48,by grind,by grind,by grind⟩
  obtain ⟨N,hN⟩:=ha δ d0
  obtain ⟨M,hM⟩:=hf_small (e:=e/2) (by grind)
  refine ⟨max N M,fun n hn=>?_⟩
  have h1:=hN n (by omega)
  have h2:=hM n (by omega)
  obtain ⟨c,c1,c2,c3⟩:∃ c,lo≤c∧c≤hi∧Ab (a n-c) δ:=by
    by_cases k:a n<lo
    · exact ⟨lo,Rat.le_refl,le,by grind,by grind⟩
    · by_cases k':hi<a n
      · exact ⟨hi,le,Rat.le_refl,by grind,by grind⟩
      · exact ⟨a n,by grind,by grind,by grind,by grind⟩
  have cb:Ab c 1:=⟨by grind,by grind⟩
  have ab:Ab (a n) 1:=⟨by grind,by grind⟩
  obtain ⟨K,hK⟩:=hs c c1 c2 (e/4) (by grind)
  have t:=tail c cb n (max n K) (by omega)
  have u:=hK (max n K) (by omega)
  have v:=lip (a n) c δ ab cb c3 (by grind) n
  obtain ⟨t1,t2⟩:=t
  obtain ⟨v1,v2⟩:=v
  exact ⟨by grind,by grind⟩
theorem enc_sinQ{a:Nat→Rat}{lo hi L H:Rat}(ha:Enc a lo hi)(l:-(9/10)≤lo)(h:hi≤9/10)(hs:∀ x,lo≤x→x≤hi→Enc (sinS x) L H):Enc (sinQ a) L H :=
  enc_along (f:=sinS) (fun a c δ ha hc hd d1 n=>(sin_lip ha hc hd d1 n).mono (by have:=hf_nonneg n;grind)) (fun _ ha _ _ k=>sin_tail ha k) ha l h hs
theorem enc_cosQ{a:Nat→Rat}{lo hi L H:Rat}(ha:Enc a lo hi)(l:-(9/10)≤lo)(h:hi≤9/10)(hs:∀ x,lo≤x→x≤hi→Enc (cosS x) L H):Enc (cosQ a) L H :=
  enc_along (f:=cosS) (fun a c δ ha hc hd d1 n=>cos_lip ha hc hd d1 n) (fun _ ha _ _ k=>cos_tail ha k) ha l h hs
def htS(r:Rat)(n:Nat):Rat:=r*piS n
theorem ht_enc{d:Rat}{P:Vx}(hP:PiIv d P)(d1:d≤1/100){r:Rat}(r1:-(1/4)≤r)(r2:r≤1/4):∃ lo hi,Enc (htS r) lo hi∧-(9/10)≤lo∧hi≤9/10∧∀ x,lo≤x→x≤hi→∃ c,InV P c∧x=r*c:=by
  have up:=hP.up d1
  have l3:=hP.lo
  have le:=hP.le
  rcases (show 0<r∨r=0∨r<0 by grind) with c | c | c
  · have im:=Rat.inv_mul_cancel r (by grind)
    have ip:=Rat.inv_pos.2 c
    have m:=rmR r2 (show 0≤P.hi.rv by grind)
    have m0:=rmN (rlL c) (show 0≤P.lo.rv by grind)
    generalize r⁻¹=i at im ip
    refine ⟨r*P.lo.rv,r*P.hi.rv,hP.enc.scale (rlL c),by grind,by grind,fun x x1 x2=>⟨i*x,⟨?_,?_⟩,by grind⟩⟩
    · have:=rmL x1 (rlL ip);rwa [←Rat.mul_assoc,im,Rat.one_mul] at this
    · have:=rmL x2 (rlL ip);rwa [←Rat.mul_assoc,im,Rat.one_mul] at this
  · refine ⟨0,0,?_,by grind,by grind,fun x x1 x2=>⟨P.lo.rv,⟨Rat.le_refl,le⟩,by grind⟩⟩
    have e:htS r=fun _=>0:=funext fun n=>by unfold htS;rw [c];grind
    rw [e];exact Enc.const 0
  · have im:=Rat.inv_mul_cancel (-r) (by grind)
    have ip:=Rat.inv_pos.2 (show 0 < -r by grind)
    have m:=rmR (show -r≤1/4 by grind) (show 0≤P.hi.rv by grind)
    have m0:=rmN (show 0≤-r by grind) (show 0≤P.lo.rv by grind)
    have en:=(hP.enc.scale (show 0≤-r by grind)).neg
    have e:htS r=fun n=>-(-r*piS n):=funext fun n=>by unfold htS;grind
    generalize (-r)⁻¹=i at im ip
    refine ⟨r*P.hi.rv,r*P.lo.rv,?_,by grind,by grind,fun x x1 x2=>⟨i * -x,⟨?_,?_⟩,by grind⟩⟩
    · rw [e];exact en.wide (by grind) (by grind)
    · have:=rmL (show -r*P.lo.rv≤-x by grind) (rlL ip);rwa [←Rat.mul_assoc,im,Rat.one_mul] at this
    · have:=rmL (show -x≤-r*P.hi.rv by grind) (rlL ip);rwa [←Rat.mul_assoc,im,Rat.one_mul] at this
theorem near_seqs{r:Dx}(hr:0≤r.m)(h1:-(1/4)≤r.rv)(h2:r.rv≤1/4){p:Int}(p0:8≤p)(p1:p≤2064){S C:Vx}(e:nearT r p=((S,C),0)):Enc (sinQ (htS r.rv)) S.lo.rv S.hi.rv∧Enc (cosQ (htS r.rv)) C.lo.rv C.hi.rv:=by
  have pi:=constPi_iv (p:=p+48) (by omega) (by omega)
  obtain ⟨lo,hi,en,l,h,al⟩:=ht_enc (pi.mono (show p2 (-3-(p+48))≤p2 (-7) from p2_le (by omega))) (by decide +kernel) h1 h2
  exact ⟨enc_sinQ en l h fun x x1 x2=>by obtain ⟨c,hc,rfl⟩:=al x x1 x2;exact (nearT_half hr h1 h2 p0 p1 e hc).1.e,
    enc_cosQ en l h fun x x1 x2=>by obtain ⟨c,hc,rfl⟩:=al x x1 x2;exact (nearT_half hr h1 h2 p0 p1 e hc).2.e⟩
def EvB(a:Nat→Rat)(K:Rat):Prop:=∃ N,∀ n,N≤n→Ab (a n) K
def cutS(N:Nat)(a:Nat→Rat)(n:Nat):Rat:=if n<N then 0 else a n
theorem cutS_ab{N:Nat}{a:Nat→Rat}{K:Rat}(K0:0≤K)(h:∀ n,N≤n→Ab (a n) K):AbS (cutS N a) K:=fun n=>by
  unfold cutS
  split
  · exact Ab.zero K0
  · exact h n (by omega)
theorem cutS_eq{N:Nat}(a:Nat→Rat){n:Nat}(h:N≤n):cutS N a n=a n:=if_neg (by omega)
section
variable {a b:Nat→Rat} (ha:EvB a 2) (hb:EvB b 2)
include ha hb
theorem addE:Near (sinQ fun n=>a n+b n) (fun n=>cosQ a n*sinQ b n+sinQ a n*cosQ b n)∧Near (cosQ fun n=>a n+b n) (fun n=>cosQ a n*cosQ b n-sinQ a n*sinQ b n):=by
  obtain ⟨N,hN⟩:=ha
  obtain ⟨M,hM⟩:=hb
  have h1:=sinQ_add (cutS_ab (by decide +kernel) hN) (cutS_ab (by decide +kernel) hM)
  have h2:=cosQ_add (cutS_ab (by decide +kernel) hN) (cutS_ab (by decide +kernel) hM)
  have e:∀ n,max N M≤n→cutS N a n=a n∧cutS M b n=b n:=fun n hn=>⟨cutS_eq a (by omega),cutS_eq b (by omega)⟩
  refine ⟨((Near.of_eq (max N M) fun n hn=>?_).trans h1).trans (Near.of_eq (max N M) fun n hn=>?_),((Near.of_eq (max N M) fun n hn=>?_).trans h2).trans (Near.of_eq (max N M) fun n hn=>?_)⟩<;>simp only [sinQ,cosQ,(e n hn).1,(e n hn).2]
end
theorem circleE{a:Nat→Rat}(ha:EvB a 2):Near (fun n=>cosQ a n*cosQ a n+sinQ a n*sinQ a n) (fun _=>1):=by
  obtain ⟨N,hN⟩:=ha
  have h:=circleQ (cutS_ab (by decide +kernel) hN)
  refine (Near.of_eq N fun n hn=>?_).trans h
  unfold sinQ cosQ;rw [cutS_eq a hn]
theorem Near.scale{s t:Nat→Rat}(h:Near s t)(k:Rat):Near (fun n=>k*s n) (fun n=>k*t n):=fun e he=>by
  have p:0<k*k+1:=by have:=sqN k;grind
  have ip:=Rat.inv_pos.2 p
  have im:=Rat.mul_inv_cancel (k*k+1) (fun h=>by grind)
  generalize (k*k+1)⁻¹=i at ip im
  obtain ⟨N,hN⟩:=h (e*i) (Rat.mul_pos he ip)
  refine ⟨N,fun n hn=>?_⟩
  have a:=hN n hn
  have A:Ab (s n-t n) (e*i):=⟨by grind,by grind⟩
  have kb:Ab k (k*k+1):=⟨by have:=sqN (k+1);have:=sqN k;grind,by have:=sqN (k-1);have:=sqN k;grind⟩
  have m:=kb.mul A
  have e2:(k*k+1)*(e*i)=e:=by grind
  rw [e2] at m
  obtain ⟨m1,m2⟩:=m
  exact ⟨by grind,by grind⟩
theorem Near.lin{s t s' t':Nat→Rat}(h:Near s t)(k:Near s' t')(a b:Rat):Near (fun n=>a*s n+b*s' n) (fun n=>a*t n+b*t' n):=(h.scale a).add (k.scale b)
theorem piS_ev:∃ N,∀ n,N≤n→3≤piS n∧piS n≤16/5:=by
  obtain ⟨N,hN⟩:=piS_enc (1/100) (by decide +kernel)
  exact ⟨N,fun n hn=>by have:=hN n hn;grind⟩
theorem ht_ev{r:Rat}(h1:-(1/2)≤r)(h2:r≤1/2):EvB (htS r) 2:=by
  obtain ⟨N,hN⟩:=piS_ev
  refine ⟨N,fun n hn=>?_⟩
  obtain ⟨a,b⟩:=hN n hn
  have m:=(show Ab r (1/2) from ⟨h1,h2⟩).mul (show Ab (piS n) (16/5) from ⟨by grind,b⟩)
  exact m.mono (by decide +kernel)
theorem half_turn:Near (sinQ (htS (1/2))) (fun _=>1)∧Near (cosQ (htS (1/2))) (fun _=>0):=by
  have e:htS (1/2)=fun n=>qpS n+qpS n:=funext fun n=>by unfold htS qpS;grind
  have q:=qp_ab
  have s:=sinQ_add q q
  have c:=cosQ_add q q
  have ci:=circleQ q
  have l:=qp_like
  have m1:=l.mul (Near.refl (sinQ qpS)) q.sin q.cos
  have m2:=(Near.refl (cosQ qpS)).mul l.symm q.cos q.cos
  rw [e]
  have z1:Near (fun n=>cosQ qpS n*sinQ qpS n+sinQ qpS n*cosQ qpS n) (fun _=>1):=((m2.add m1).symm.trans ci).congr (fun n=>by grind) (fun _=>rfl)
  have z2:Near (fun n=>cosQ qpS n*cosQ qpS n-sinQ qpS n*sinQ qpS n) (fun _=>0):=(m2.sub m1).congr (fun _=>rfl) (fun n=>by grind)
  exact ⟨s.trans z1,c.trans z2⟩
def cu(n:Int):Rat:=if n % 4=0 then 1 else if n % 4=2 then -1 else 0
def su(n:Int):Rat:=if n % 4=1 then 1 else if n % 4=3 then -1 else 0
theorem cu_val(n:Int):(n % 4=0∧cu n=1∧su n=0)∨(n % 4=1∧cu n=0∧su n=1)∨(n % 4=2∧cu n = -1∧su n=0)∨(n % 4=3∧cu n=0∧su n = -1):=by
  unfold cu su
  rcases (show n % 4=0∨n % 4=1∨n % 4=2∨n % 4=3 by omega) with h | h | h | h<;>rw [h]<;>decide +kernel
theorem cu_add(m n:Int):cu (m+n)=cu m*cu n-su m*su n∧su (m+n)=su m*cu n+cu m*su n:=by
  rcases cu_val m with ⟨a,b,c⟩|⟨a,b,c⟩|⟨a,b,c⟩|⟨a,b,c⟩<;>rcases cu_val n with ⟨a',b',c'⟩|⟨a',b',c'⟩|⟨a',b',c'⟩|⟨a',b',c'⟩<;>rcases cu_val (m+n) with ⟨d,e,f⟩|⟨d,e,f⟩|⟨d,e,f⟩|⟨d,e,f⟩ <;>
    first
    | (exfalso;omega)
    | (rw [b,c,b',c',e,f];decide +kernel)
theorem turS_uv(n:Int)(s c:Nat→Rat):(turS (n % 4) (s,c)).1=(fun i=>s i*cu n+c i*su n)∧(turS (n % 4) (s,c)).2=fun i=>c i*cu n-s i*su n:=by
  rcases cu_val n with ⟨a,b,d⟩|⟨a,b,d⟩|⟨a,b,d⟩|⟨a,b,d⟩<;>rw [a,b,d]<;>constructor<;>funext i<;>simp only [turS]<;>(first | rw [if_pos rfl] | skip)<;>simp<;>grind
def sgQ(r:Rat)(n:Int)(i:Nat):Rat:=sinQ (htS r) i*cu n+cosQ (htS r) i*su n
def kpQ(r:Rat)(n:Int)(i:Nat):Rat:=cosQ (htS r) i*cu n-sinQ (htS r) i*su n
theorem enc_turned{S C:Vx}(hS:S.P)(hC:C.P){s c:Nat→Rat}(h:Enc s S.lo.rv S.hi.rv)(k:Enc c C.lo.rv C.hi.rv)(n:Int):Enc (turS n (s,c)).1 (turnP n (S,C)).1.lo.rv (turnP n (S,C)).1.hi.rv∧Enc (turS n (s,c)).2 (turnP n (S,C)).2.lo.rv (turnP n (S,C)).2.hi.rv:=by
  unfold turS turnP
  split
  · exact ⟨k,h.turn hS⟩
  split
  · exact ⟨h.turn hS,k.turn hC⟩
  split
  · exact ⟨k.turn hC,h⟩
  · exact ⟨h,k⟩
theorem enc_sg{r:Dx}(hr:0≤r.m)(h1:-(1/4)≤r.rv)(h2:r.rv≤1/4){p:Int}(p0:8≤p)(p1:p≤2064){S C:Vx}(hS:S.P)(hC:C.P)(e:nearT r p=((S,C),0))(n:Int):Enc (sgQ r.rv n) (turnP (n % 4) (S,C)).1.lo.rv (turnP (n % 4) (S,C)).1.hi.rv∧Enc (kpQ r.rv n) (turnP (n % 4) (S,C)).2.lo.rv (turnP (n % 4) (S,C)).2.hi.rv:=by
  obtain ⟨a,b⟩:=near_seqs hr h1 h2 p0 p1 e
  obtain ⟨c,d⟩:=enc_turned hS hC a b (n % 4)
  obtain ⟨u,v⟩:=turS_uv n (sinQ (htS r.rv)) (cosQ (htS r.rv))
  rw [u] at c
  rw [v] at d
  exact ⟨c,d⟩
theorem enc_less{s t:Nat→Rat}{v u:Vx}{w:Int}(hv:v.P)(hu:u.P)(hw:1≤w)(h:Enc s v.lo.rv v.hi.rv)(k:Enc t u.lo.rv u.hi.rv):Enc (fun n=>s n-t n) (lessV v u w).lo.rv (lessV v u w).hi.rv:=by
  obtain ⟨l,g⟩:=less_best (p:=w) hv hu hw
  have a:=h.add k.neg
  have e:(fun n=>s n + -t n)=fun n=>s n-t n:=funext fun n=>(Rat.sub_eq_add_neg _ _).symm
  rw [e] at a
  exact a.wide (by have:=l.2.1;grind) (by have:=g.2.1;grind)
def tyFd:TyRow:=⟨90,3,true,[.bool false,.int .i64 0,.int .u64 0],.struct [(0,1,false),(1,1,false),(2,1,false)]⟩
def tysF:List TyRow:=tyFd :: tysU
theorem tysF_ok:RowsOk Tryz.prog tysF:=⟨by kernel_rfl,tysU_ok⟩
def splX(n:Bool)(e f:Int):Tv:=.sv (.agg [.bool n,.int .i64 e,.int .u64 f])
def bothTr(x:Dx)(p:Int):(Vx×Vx)×Int:=if (quarR x (p+32)).2.2=0 then (if (bothR (quarR x (p+32)).2.1 (p+24)).2=0 then (turnP (quarR x (p+32)).1 (bothR (quarR x (p+32)).2.1 (p+24)).1,0) else ((zeroIv,zeroIv),(bothR (quarR x (p+32)).2.1 (p+24)).2)) else ((zeroIv,zeroIv),(quarR x (p+32)).2.2)
def rhS(x:Rat)(n:Int)(i:Nat):Rat:=x-(n:Rat)*(1/2*piS i)
structure QNum (x:Dx) (p:Int) (R:Vx) (n:Int):Prop where
  enc:Enc (rhS x.rv n) R.lo.rv R.hi.rv
  q:R.P
  v:VN (p2 (-p)) R
  r:rightV R=true
  lo:-(9/10)≤R.lo.rv
  hi:R.hi.rv≤9/10
  near:x.rv=0∧n=0∨∃ w,8≤w∧w≤8192∧∀ c,InV (halfP w) c→NearI n (x.rv*c⁻¹)
theorem half_enc{d:Rat}{h:Vx}(k:HfIv d h):Enc (fun i=>1/2*piS i) h.lo.rv h.hi.rv:=(k.enc.scale (c:=1/2) (by decide +kernel)).wide (by grind) (by grind)
theorem rest_enc{h:Vx}{d:Rat}(k:HfIv d h){x:Dx}(hx:0≤x.m){w:Int}(hw:1≤w):Enc (rhS x.rv (nI h x w)) (restW h x w).lo.rv (restW h x w).hi.rv:=by
  have np:0≤(nW h x w).m:=nearD_p
  have a:=enc_point hx
  have b:=enc_point np
  have c:=enc_times (p:=w+64) (pointV_p (nW h x w)) k.p (by omega) b (half_enc k)
  have e:=enc_less (w:=w) (pointV_p x) (trimV_p (prodV (pointV (nW h x w)) h) (w+64)) hw a c
  have en:(nW h x w).rv=(nI h x w:Rat):=(wholeS_rv (d:=nW h x w) nearD_e).symm
  rw [en] at e
  exact e
theorem vn_wide{p:Int}{R:Vx}{z:Rat}(v:VN (p2 (-p)) R)(hp:8≤p)(i:InV R z)(z1:-(4/5)≤z)(z2:z≤4/5):-(9/10)≤R.lo.rv∧R.hi.rv≤9/10:=by
  have e:p2 (-p)≤1/16:=by
    have:=p2_le (show -p≤-4 by omega)
    have e:p2 (-4)=1/16:=by decide +kernel
    rw [e] at this;exact this
  obtain ⟨i1,i2⟩:=i
  rcases v with ⟨a,b⟩|⟨a,b,c⟩|⟨a,b,c⟩
  · rw [a,b];exact ⟨by decide +kernel,by decide +kernel⟩
  · have m:=rmR e (rlL a)
    exact ⟨by grind,by grind⟩
  · have m:=rmR e (rlL a)
    exact ⟨by grind,by grind⟩
theorem quar_num{x:Dx}(hx:0≤x.m){p:Int}(h:(quarR x p).2.2=0):∃ n:Int,(quarR x p).1=n % 4∧QNum x p (quarR x p).2.1 n:=by
  have fy:OneF (oneD x):=oneD_f hx
  have ey:(oneD x).rv=x.rv:=rv_one hx
  have z0:zeroIv.lo.rv=0:=zero_rv
  have z1:zeroIv.hi.rv=0:=zero_rv
  have cq:=cq_of h
  rcases quar_cases x p with ⟨c,_⟩|⟨_,z,q⟩|⟨_,z,t,q⟩|⟨_,z,t,q⟩|⟨_,z,t,w,q⟩
  · exact absurd cq c
  · have x0:x.rv=0:=by rw [←ey];exact rv_zero z
    rw [q]
    refine ⟨0,rfl,?_,⟨Int.le_refl _,Int.le_refl _⟩,.inl ⟨z0,z1⟩,zero_right,by rw [z0];decide +kernel,by rw [z1];decide +kernel,.inl ⟨x0,rfl⟩⟩
    have e:rhS x.rv 0=fun _=>0:=funext fun i=>by
      unfold rhS;rw [x0]
      have:((0:Int):Rat)=0:=rfl
      rw [this];grind
    show Enc (rhS x.rv 0) zeroIv.lo.rv zeroIv.hi.rv
    rw [e,z0,z1];exact Enc.const 0
  · rw [q] at h;cases h
  · rw [q] at h;cases h
  · have hf:=halfP_hf q.w0 (show w≤65000 by have:=q.w1;omega)
    have w1:1≤w:=by have:=q.w0;omega
    have rp:(restW (halfP w) (oneD x) w).P:=⟨cutD_p,cutD_p⟩
    have c2:=cq.2.1
    have nb:narrowB (restW (halfP w) (oneD x) w) p=true:=by
      rw [narrowB,q.right,q.nar,leI_true.2 (show 0≤p by omega)];rfl
    have vn:=nar_of_narrow rp nb
    obtain ⟨cc,dc,_,d1,d2⟩:=hf.common hf
    have n1:=sure_near hf fy.p w1 q.sure dc
    have r1:=rest_in hf fy.p w1 dc
    rw [ey] at n1 r1
    have m1:=hf.enc.meets piS_enc
    have m2:=hf.nar
    have m3:p2 (-3-w)≤1/100:=by
      have:=p2_le (show -3-w≤-7 by have:=q.w0;omega)
      have e:p2 (-7)=1/128:=by decide +kernel
      rw [e] at this;grind
    have m4:cc≤8/5:=by have:=dc.2;grind
    obtain ⟨b1,b2⟩:=near_bd2 d1 m4 n1 rfl
    obtain ⟨g1,g2⟩:=vn_wide vn c2 r1 b1 b2
    have en:=rest_enc hf fy.p w1
    rw [ey] at en
    rw [q.eq]
    exact ⟨nI (halfP w) (oneD x) w,rfl,en,rp,vn,q.right,g1,g2,.inr ⟨w,q.w0,q.w1,fun c hc=>by have:=sure_near hf fy.p w1 q.sure hc;rwa [ey] at this⟩⟩
theorem small_of{R:Vx}(le:R.lo.rv≤R.hi.rv)(h1:-(9/10)≤R.lo.rv)(h2:R.hi.rv≤9/10):small1 R.lo∧small1 R.hi:=⟨⟨by grind,by grind⟩,⟨by grind,by grind⟩⟩
structure PairQ (x:Dx) (p n:Int) (S C:Vx):Prop where
  k:∃ R,PairOk R (p2 (-19-p)) S C
  s:Enc (sinQ (rhS x.rv n)) S.lo.rv S.hi.rv
  c:Enc (cosQ (rhS x.rv n)) C.lo.rv C.hi.rv
theorem qnum_pair{x:Dx}{p n:Int}{R:Vx}(h:QNum x (p+32) R n)(p0:8≤p)(p1:p≤2064):(bothR R (p+24)=((zeroIv,zeroIv),3)∧rightV (trimV (sinesV (onesV R) (p+24)) (p+24+8))=false)∨∃ S C,bothR R (p+24)=((S,C),0)∧PairQ x p n S C∧PairOk R (p2 (-19-p)) S C:=by
  obtain ⟨s1,s2⟩:=small_of h.enc.self h.lo h.hi
  have f:=right_fits h.r
  have F1:=fault_of (p:=p+24) h.q.1 f.1 s1 (by omega) (by omega)
  have F2:=fault_of (p:=p+24) h.q.2 f.2.1 s2 (by omega) (by omega)
  have e5:p2 (5-(p+24))=p2 (-19-p):=by congr 1;omega
  rcases pair_ok h.q h.r F1 F2 h.v (rlL (p2_pos _)) (p2_le (by omega)) with e | ⟨e,K⟩
  · exact .inl e
  · rw [e5] at K
    exact .inr ⟨_,_,e,⟨⟨R,K⟩,enc_sinQ h.enc h.lo h.hi fun z a b=>K.sin z a b,enc_cosQ h.enc h.lo h.hi fun z a b=>K.cos z a b⟩,K⟩
def tyBo:TyRow:=⟨80,12,true,zV ++ zV,.struct [(0,6,true),(6,6,true)]⟩
def tyBf:TyRow:=⟨158,1,false,[.lit .nilFunc],.func⟩
def tyBa:TyRow:=⟨160,4,true,[.lit .nilFunc,.lit .nilFunc,.lit .nilFunc,.lit .nilFunc],.array 4 1 false⟩
def tysT:List TyRow:=tyBa :: tyBf :: tyBo :: tys4
theorem tysT_ok:RowsOk Tryz.prog tysT:=⟨by kernel_rfl,by kernel_rfl,by kernel_rfl,tys4_ok⟩
abbrev pF(b:Vx×Vx):Tv:=.sv (.agg (ivL false b.1 ++ ivL false b.2))
def eP(b:Vx×Vx):Prop:=(eB 4611686018427387904 b.1.lo∧eB 4611686018427387904 b.1.hi)∧eB 4611686018427387904 b.2.lo∧eB 4611686018427387904 b.2.hi
def wTn(g:Vx×Vx→Vx×Vx):Spec:=specK [.p] fun (b:Vx×Vx)=>(some (eP b),pF (g b))
theorem tSt_vc(b:Vx×Vx)(Q:Tv→Prop):execF ⟨tysT,sRaw8⟩ (fun _=>none) 0 Tryz.f152 [.agg (ivL false b.1 ++ ivL false b.2)] Q=(Q (Tv.sv (Sv.agg (At.bool b.fst.lo.neg :: At.words false b.fst.lo.xs :: At.int .i64 b.fst.lo.e :: At.bool b.fst.hi.neg :: At.words false b.fst.hi.xs :: At.int .i64 b.fst.hi.e :: ivL false b.snd)))):=by kernel_rfl
theorem tRi_vc(b:Vx×Vx)(Q:Tv→Prop):execF ⟨tysT,sRaw8⟩ (fun _=>none) 0 Tryz.f153 [.agg (ivL false b.1 ++ ivL false b.2)] Q=((eB 4611686018427387904 b.fst.lo∧eB 4611686018427387904 b.fst.hi)∧true=true∧Q (Tv.sv (Sv.agg (At.bool b.snd.lo.neg :: At.words false b.snd.lo.xs :: At.int .i64 b.snd.lo.e :: At.bool b.snd.hi.neg :: At.words false b.snd.hi.xs :: At.int .i64 b.snd.hi.e :: ivL true (turnV b.fst))))):=by kernel_rfl
theorem tRo_vc(b:Vx×Vx)(Q:Tv→Prop):execF ⟨tysT,sRaw8⟩ (fun _=>none) 0 Tryz.f154 [.agg (ivL false b.1 ++ ivL false b.2)] Q=((eB 4611686018427387904 b.fst.lo∧eB 4611686018427387904 b.fst.hi)∧(eB 4611686018427387904 b.snd.lo∧eB 4611686018427387904 b.snd.hi)∧true=true∧Q (Tv.sv (Sv.agg (At.bool (turnV b.fst).lo.neg :: At.words true (turnV b.fst).lo.xs :: At.int .i64 (turnV b.fst).lo.e :: At.bool (turnV b.fst).hi.neg :: At.words true (turnV b.fst).hi.xs :: At.int .i64 (turnV b.fst).hi.e :: ivL true (turnV b.snd))))):=by kernel_rfl
theorem tLe_vc(b:Vx×Vx)(Q:Tv→Prop):execF ⟨tysT,sRaw8⟩ (fun _=>none) 0 Tryz.f155 [.agg (ivL false b.1 ++ ivL false b.2)] Q=((eB 4611686018427387904 b.snd.lo∧eB 4611686018427387904 b.snd.hi)∧true=true∧Q (Tv.sv (Sv.agg (At.bool (turnV b.snd).lo.neg :: At.words true (turnV b.snd).lo.xs :: At.int .i64 (turnV b.snd).lo.e :: At.bool (turnV b.snd).hi.neg :: At.words true (turnV b.snd).hi.xs :: At.int .i64 (turnV b.snd).hi.e :: ivL false b.fst)))):=by kernel_rfl
def sTn(g0 g1 g2 g3:Vx×Vx→Vx×Vx):List (FuncId×Spec):=[(152,wTn g0),(153,wTn g1),(154,wTn g2),(155,wTn g3)]
theorem tTn0_vc(b:Vx×Vx)(g0 g1 g2 g3:Vx×Vx→Vx×Vx)(Q:Tv→Prop):execF ⟨tysT,sTn g0 g1 g2 g3⟩ (fun _=>none) 0 Tryz.f101 [.agg (ivL false b.1 ++ ivL false b.2),.one (.int .i64 0)] Q=(((0:Int)≤bitsI BinOp.and IntKind.i64 0 3∧bitsI BinOp.and IntKind.i64 0 3<(↑(4:Nat):Int))∧eP b∧true=true∧Q (Tv.sv (Sv.agg (At.bool (g0 b).fst.lo.neg :: At.words false (g0 b).fst.lo.xs :: At.int .i64 (g0 b).fst.lo.e :: At.bool (g0 b).fst.hi.neg :: At.words false (g0 b).fst.hi.xs :: At.int .i64 (g0 b).fst.hi.e :: ivL false (g0 b).snd)))):=by kernel_rfl
theorem tTn1_vc(b:Vx×Vx)(g0 g1 g2 g3:Vx×Vx→Vx×Vx)(Q:Tv→Prop):execF ⟨tysT,sTn g0 g1 g2 g3⟩ (fun _=>none) 0 Tryz.f101 [.agg (ivL false b.1 ++ ivL false b.2),.one (.int .i64 1)] Q=(((0:Int)≤bitsI BinOp.and IntKind.i64 1 3∧bitsI BinOp.and IntKind.i64 1 3<(↑(4:Nat):Int))∧eP b∧true=true∧Q (Tv.sv (Sv.agg (At.bool (g1 b).fst.lo.neg :: At.words false (g1 b).fst.lo.xs :: At.int .i64 (g1 b).fst.lo.e :: At.bool (g1 b).fst.hi.neg :: At.words false (g1 b).fst.hi.xs :: At.int .i64 (g1 b).fst.hi.e :: ivL false (g1 b).snd)))):=by kernel_rfl
theorem tTn2_vc(b:Vx×Vx)(g0 g1 g2 g3:Vx×Vx→Vx×Vx)(Q:Tv→Prop):execF ⟨tysT,sTn g0 g1 g2 g3⟩ (fun _=>none) 0 Tryz.f101 [.agg (ivL false b.1 ++ ivL false b.2),.one (.int .i64 2)] Q=(((0:Int)≤bitsI BinOp.and IntKind.i64 2 3∧bitsI BinOp.and IntKind.i64 2 3<(↑(4:Nat):Int))∧eP b∧true=true∧Q (Tv.sv (Sv.agg (At.bool (g2 b).fst.lo.neg :: At.words false (g2 b).fst.lo.xs :: At.int .i64 (g2 b).fst.lo.e :: At.bool (g2 b).fst.hi.neg :: At.words false (g2 b).fst.hi.xs :: At.int .i64 (g2 b).fst.hi.e :: ivL false (g2 b).snd)))):=by kernel_rfl
theorem tTn3_vc(b:Vx×Vx)(g0 g1 g2 g3:Vx×Vx→Vx×Vx)(Q:Tv→Prop):execF ⟨tysT,sTn g0 g1 g2 g3⟩ (fun _=>none) 0 Tryz.f101 [.agg (ivL false b.1 ++ ivL false b.2),.one (.int .i64 3)] Q=(((0:Int)≤bitsI BinOp.and IntKind.i64 3 3∧bitsI BinOp.and IntKind.i64 3 3<(↑(4:Nat):Int))∧eP b∧true=true∧Q (Tv.sv (Sv.agg (At.bool (g3 b).fst.lo.neg :: At.words false (g3 b).fst.lo.xs :: At.int .i64 (g3 b).fst.lo.e :: At.bool (g3 b).fst.hi.neg :: At.words false (g3 b).fst.hi.xs :: At.int .i64 (g3 b).fst.hi.e :: ivL false (g3 b).snd)))):=by kernel_rfl
def sNt(co:Int→Vx×Int)(bo:Vx→Int→(Vx×Vx)×Int):List (FuncId×Spec):=[(32,rZero),(90,rInt),(75,rPoint),(79,rTimes),(36,rRight),(18,specK [.i .u8,.i .i64] fun (k:Int) (p:Int)=>(some (k=1),reT (co p))),(15,specK [.v,.i .i64] fun (v:Vx) (p:Int)=>(none,reT2 (bo v p)))]
theorem tNr_vc(r:Dx)(p:Int)(co:Int→Vx×Int)(bo:Vx→Int→(Vx×Vx)×Int)(Q:Tv→Prop):execF ⟨tysT,sNt co bo⟩ (fun _=>none) 0 Tryz.f100 [.agg (dyL false r),.one (.int .i64 p)] Q=(br (Dx.zeroB r) (inR 1∧eB 4611686018427387904 (mkS 1 0)∧Q (Tv.tup [Sv.agg (At.bool false :: At.words true [] :: At.int .i64 0 :: At.bool false :: At.words true [] :: At.int .i64 0 :: ivL true (pointV (mkS 1 0))),Sv.one (At.int .i64 0)])) (inR (p+48)∧(1:Int)=(1:Int)∧br (neI (co (p+48)).snd 0) (Q (Tv.tup [Sv.agg [At.bool false,At.words true [],At.int .i64 0,At.bool false,At.words true [],At.int .i64 0,At.bool false,At.words true [],At.int .i64 0,At.bool false,At.words true [],At.int .i64 0],Sv.one (At.int .i64 (co (p+48)).snd)])) (eB 4611686018427387904 r∧inR (p+40)∧(Vx.Sm 268435456 (pointV r)∧Vx.Sm 268435456 (co (p+48)).fst∧(0:Int)≤p+40∧p+40≤1099511627776)∧true=true∧br (!rightV (timesV (pointV r) (co (p+48)).fst (p+40))) (Q (Tv.tup [Sv.agg [At.bool false,At.words true [],At.int .i64 0,At.bool false,At.words true [],At.int .i64 0,At.bool false,At.words true [],At.int .i64 0,At.bool false,At.words true [],At.int .i64 0],Sv.one (At.int .i64 3)])) (inR (p+24)∧Q (Tv.tup [Sv.agg (At.bool (bo (timesV (pointV r) (co (p+48)).fst (p+40)) (p+24)).fst.fst.lo.neg :: At.words false (bo (timesV (pointV r) (co (p+48)).fst (p+40)) (p+24)).fst.fst.lo.xs :: At.int .i64 (bo (timesV (pointV r) (co (p+48)).fst (p+40)) (p+24)).fst.fst.lo.e :: At.bool (bo (timesV (pointV r) (co (p+48)).fst (p+40)) (p+24)).fst.fst.hi.neg :: At.words false (bo (timesV (pointV r) (co (p+48)).fst (p+40)) (p+24)).fst.fst.hi.xs :: At.int .i64 (bo (timesV (pointV r) (co (p+48)).fst (p+40)) (p+24)).fst.fst.hi.e :: ivL false (bo (timesV (pointV r) (co (p+48)).fst (p+40)) (p+24)).fst.snd),Sv.one (At.int .i64 (bo (timesV (pointV r) (co (p+48)).fst (p+40)) (p+24)).snd)]))))):=by kernel_rfl
theorem tSt_ok:SpecOk Tryz.prog 152 (wTn id) :=
  specKW_ok (envOk tysT_ok sRaw8_ok) mixed Tryz.func152 rfl (by decide) (by decide) fun (b:Vx×Vx) _ _=>⟨fun _=>none,0,(tSt_vc b _).mpr (.inl rfl)⟩
theorem tRi_ok:SpecOk Tryz.prog 153 (wTn fun b=>(b.2,turnV b.1)) :=
  specKW_ok (envOk tysT_ok sRaw8_ok) mixed Tryz.func153 rfl (by decide) (by decide) fun (b:Vx×Vx) _ hp=>⟨fun _=>none,0,(tRi_vc b _).mpr ⟨hp.1,rfl,.inr rfl⟩⟩
theorem tRo_ok:SpecOk Tryz.prog 154 (wTn fun b=>(turnV b.1,turnV b.2)) :=
  specKW_ok (envOk tysT_ok sRaw8_ok) mixed Tryz.func154 rfl (by decide) (by decide) fun (b:Vx×Vx) _ hp=>⟨fun _=>none,0,(tRo_vc b _).mpr ⟨hp.1,hp.2,rfl,.inr rfl⟩⟩
theorem tLe_ok:SpecOk Tryz.prog 155 (wTn fun b=>(turnV b.2,b.1)) :=
  specKW_ok (envOk tysT_ok sRaw8_ok) mixed Tryz.func155 rfl (by decide) (by decide) fun (b:Vx×Vx) _ hp=>⟨fun _=>none,0,(tLe_vc b _).mpr ⟨hp.2,rfl,.inr rfl⟩⟩
def tTn:Spec:=specK [.p,.i .i64] fun (b:Vx×Vx) (k:Int)=>(some (eP b∧0≤k∧k≤3),pF (turnP k b))
theorem sTn_ok:SpecsOk Tryz.prog (sTn id (fun b=>(b.2,turnV b.1)) (fun b=>(turnV b.1,turnV b.2)) (fun b=>(turnV b.2,b.1))):=⟨tSt_ok,tRi_ok,tRo_ok,tLe_ok,trivial⟩
theorem tTn_ok:SpecOk Tryz.prog 101 tTn :=
  specKW_ok (envOk tysT_ok sTn_ok) mixed Tryz.func101 rfl (by decide) (by decide) fun (b:Vx×Vx) _ (k:Int) _ hp=>⟨fun _=>none,0,by
    obtain ⟨he,k0,k1⟩:eP b∧0≤k∧k≤3:=hp
    show execF _ _ _ _ _ (fun t=>t=pF (turnP k b)∨fgT t=pF (turnP k b))
    rcases (show k=0∨k=1∨k=2∨k=3 by omega) with rfl | rfl | rfl | rfl
    · exact (tTn0_vc b _ _ _ _ _).mpr ⟨by rw [and_mask3];decide,he,rfl,.inl rfl⟩
    · exact (tTn1_vc b _ _ _ _ _).mpr ⟨by rw [and_mask3];decide,he,rfl,.inl rfl⟩
    · exact (tTn2_vc b _ _ _ _ _).mpr ⟨by rw [and_mask3];decide,he,rfl,.inl rfl⟩
    · exact (tTn3_vc b _ _ _ _ _).mpr ⟨by rw [and_mask3];decide,he,rfl,.inl rfl⟩⟩
def pnT(r:(Vx×Vx)×Int):Tv:=.tup [.agg (ivL false r.1.1 ++ ivL false r.1.2),.one (.int .i64 r.2)]
def tNr:Spec:=specK [.d,.i .i64] fun (r:Dx) (p:Int)=>(some (r.Bd 131072 131072∧8≤p∧p≤4096),pnT (nearT r p))
theorem sNt_ok:SpecsOk Tryz.prog (sNt constR bothR):=⟨rZero_ok,rInt_ok,rPoint_ok,rTimes_ok,rRight_ok,cConst_ok,rBoth_ok,trivial⟩
theorem tNr_ok:SpecOk Tryz.prog 100 tNr :=
  specKW_ok (envOk tysT_ok sNt_ok) mixed Tryz.func100 rfl (by decide) (by decide) fun (r:Dx) hw (p:Int) _ hp=>⟨fun _=>none,0,by
    obtain ⟨hb,p0,p1⟩:r.Bd 131072 131072∧8≤p∧p≤4096:=hp
    have hr:=Dx.Wf.m0 hw
    show execF _ _ _ _ _ (fun t=>t=pnT (nearT r p)∨fgT t=pnT (nearT r p))
    have ec:constR (p+48)=(constPi (p+48),0):=by rw [constR,if_pos ⟨by omega,by omega⟩]
    have cb:=constPi_bd (w:=p+48) (by omega) (by omega)
    refine (tNr_vc r p constR bothR _).mpr (br_intro (fun h=>⟨⟨by omega,by omega⟩,?_,.inr ?_⟩) fun h=>⟨⟨by omega,by omega⟩,rfl,?_⟩)
    · exact one_eB
    · rw [nearT,if_pos h];rfl
    · rw [ec]
      refine br_intro (fun k=>by cases k) fun _=>⟨?_,⟨by omega,by omega⟩,⟨(hb.point hr).sm (by omega),cb.sm (by omega),by omega,by omega⟩,rfl,br_intro (fun k=>.inr ?_) fun k=>⟨⟨by omega,by omega⟩,.inl ?_⟩⟩
      · exact (hb.sm (N:=262144) (by omega)).eB (by omega)
      · rw [nearT,if_neg (by rw [h];simp),if_neg (by rw [angT,not_true k];simp)];rfl
      · rw [nearT,if_neg (by rw [h];simp),if_pos (by rw [angT,not_false' k]),angT];rfl⟩
def sOf(tf:Dx→Int×Dx×Int)(nf:Dx→Int→(Vx×Vx)×Int)(gf:Int→Vx×Vx→Vx×Vx)(pr:Dx→Int→Prop)(pg:Vx×Vx→Int→Prop):List (FuncId×Spec):=[(99,specK [.d] fun (x:Dx)=>(none,turT (tf x))),(100,specK [.d,.i .i64] fun (r:Dx) (p:Int)=>(some (pr r p),pnT (nf r p))),(101,specK [.p,.i .i64] fun (b:Vx×Vx) (k:Int)=>(some (pg b k),pF (gf k b)))]
theorem tOf_vc(x:Dx)(p:Int)(tf:Dx→Int×Dx×Int)(nf:Dx→Int→(Vx×Vx)×Int)(gf:Int→Vx×Vx→Vx×Vx)(pr:Dx→Int→Prop)(pg:Vx×Vx→Int→Prop)(Q:Tv→Prop):execF ⟨tysT,sOf tf nf gf pr pg⟩ (fun _=>none) 0 Tryz.f55 [.agg (dyL false x),.one (.int .i64 p)] Q=(br (neI (tf x).snd.snd 0) (Q (Tv.tup [Sv.agg [At.bool false,At.words true [],At.int .i64 0,At.bool false,At.words true [],At.int .i64 0,At.bool false,At.words true [],At.int .i64 0,At.bool false,At.words true [],At.int .i64 0],Sv.one (At.int .i64 (tf x).snd.snd)])) (pr (tf x).snd.fst p∧br (neI (nf (tf x).snd.fst p).snd 0) (Q (Tv.tup [Sv.agg [At.bool false,At.words true [],At.int .i64 0,At.bool false,At.words true [],At.int .i64 0,At.bool false,At.words true [],At.int .i64 0,At.bool false,At.words true [],At.int .i64 0],Sv.one (At.int .i64 (nf (tf x).snd.fst p).snd)])) (pg (nf (tf x).snd.fst p).fst (tf x).fst∧Q (Tv.tup [Sv.agg (At.bool (gf (tf x).fst (nf (tf x).snd.fst p).fst).fst.lo.neg :: At.words false (gf (tf x).fst (nf (tf x).snd.fst p).fst).fst.lo.xs :: At.int .i64 (gf (tf x).fst (nf (tf x).snd.fst p).fst).fst.lo.e :: At.bool (gf (tf x).fst (nf (tf x).snd.fst p).fst).fst.hi.neg :: At.words false (gf (tf x).fst (nf (tf x).snd.fst p).fst).fst.hi.xs :: At.int .i64 (gf (tf x).fst (nf (tf x).snd.fst p).fst).fst.hi.e :: ivL false (gf (tf x).fst (nf (tf x).snd.fst p).fst).snd),Sv.one (At.int .i64 0)])))):=by kernel_rfl
def sBp(of:Dx→Int→(Vx×Vx)×Int)(po:Dx→Int→Prop)(tr:Vx→Int→Vx):List (FuncId×Spec):=[(55,specK [.d,.i .i64] fun (x:Dx) (p:Int)=>(some (po x p),pnT (of x p))),(53,specK [.v,.i .i64] fun (v:Vx) (p:Int)=>(some (v.Sm 34359738368∧0≤p∧p≤1099511627776),vT (tr v p)))]
theorem tBp_vc(x:Dx)(p:Int)(of:Dx→Int→(Vx×Vx)×Int)(po:Dx→Int→Prop)(tr:Vx→Int→Vx)(Q:Tv→Prop):execF ⟨tysT,sBp of po tr⟩ (fun _=>none) 0 Tryz.f19 [.agg (dyL false x),.one (.int .i64 p)] Q=(br (ltI p 8) (Q (Tv.tup [Sv.agg [At.bool false,At.words true [],At.int .i64 0,At.bool false,At.words true [],At.int .i64 0],Sv.agg [At.bool false,At.words true [],At.int .i64 0,At.bool false,At.words true [],At.int .i64 0],Sv.one (At.int .i64 2)])) (br (ltI 2048 p) (Q (Tv.tup [Sv.agg [At.bool false,At.words true [],At.int .i64 0,At.bool false,At.words true [],At.int .i64 0],Sv.agg [At.bool false,At.words true [],At.int .i64 0,At.bool false,At.words true [],At.int .i64 0],Sv.one (At.int .i64 2)])) (po x p∧br (neI (of x p).snd 0) (Q (Tv.tup [Sv.agg [At.bool false,At.words true [],At.int .i64 0,At.bool false,At.words true [],At.int .i64 0],Sv.agg [At.bool false,At.words true [],At.int .i64 0,At.bool false,At.words true [],At.int .i64 0],Sv.one (At.int .i64 (of x p).snd)])) (inR (p+8)∧(Vx.Sm 34359738368 (of x p).fst.fst∧(0:Int)≤p+8∧p+8≤1099511627776)∧inR (p+8)∧(Vx.Sm 34359738368 (of x p).fst.snd∧(0:Int)≤p+8∧p+8≤1099511627776)∧true=true∧Q (Tv.tup [Sv.agg (ivL true (tr (of x p).fst.fst (p+8))),Sv.agg (ivL true (tr (of x p).fst.snd (p+8))),Sv.one (At.int .i64 0)]))))):=by kernel_rfl
theorem of_half{x:Dx}(hx:0≤x.m){p:Int}(p0:8≤p)(p1:p≤2064)(h:(ofTp x p).2=0):∃ s c,Half (p2 (-19-p)) (ofTp x p).1.1 s∧Half (p2 (-19-p)) (ofTp x p).1.2 c:=by
  unfold ofTp at h ⊢
  split at h
  · rename_i h1
    rw [if_pos h1]
    split at h
    · rename_i h2
      rw [if_pos h2]
      obtain ⟨f,l1,l2,k0,k1⟩:=tur_small hx h1
      rcases nearT_ok f.p l1 l2 p0 p1 (p':=8) (by decide) (by decide) with ⟨S,C,t,e,two,_⟩|⟨e,_⟩
      · rw [e]
        obtain ⟨a,b⟩:=turn_half two.s two.c (turR x).1
        exact ⟨_,_,a,b⟩
      · rw [e] at h2;cases h2
    · rename_i h2;exact absurd h h2
  · rename_i h1;exact absurd h h1
def tOf:Spec:=specK [.d,.i .i64] fun (x:Dx) (p:Int)=>(some (8≤p∧p≤2064),pnT (ofTp x p))
theorem sOf_ok:SpecsOk Tryz.prog (sOf turR nearT turnP (fun r p=>r.Bd 131072 131072∧8≤p∧p≤4096) (fun b k=>eP b∧0≤k∧k≤3)):=⟨qTurns_ok,tNr_ok,tTn_ok,trivial⟩
theorem right_eB{v:Vx}(h:rightV v=true):eB 4611686018427387904 v.lo∧eB 4611686018427387904 v.hi:=⟨(fits_sm (right_fits h).1).eB (by omega),(fits_sm (right_fits h).2.1).eB (by omega)⟩
theorem tOf_ok:SpecOk Tryz.prog 55 tOf :=
  specKW_ok (envOk tysT_ok sOf_ok) mixed Tryz.func55 rfl (by decide) (by decide) fun (x:Dx) hw (p:Int) _ hp=>⟨fun _=>none,0,by
    obtain ⟨p0,p1⟩:8≤p∧p≤2064:=hp
    have hx:=Dx.Wf.m0 hw
    show execF _ _ _ _ _ (fun t=>t=pnT (ofTp x p)∨fgT t=pnT (ofTp x p))
    refine (tOf_vc x p turR nearT turnP _ _ _).mpr (br_intro (fun h=>.inr ?_) fun h=>?_)
    · rw [ofTp,if_neg (neI_true.1 h)];rfl
    have h0:=neI_false.1 h
    obtain ⟨f,l1,l2,k0,k1⟩:=tur_small hx h0
    obtain ⟨_,_,h3,h4⟩:=tur_ok h0
    have hb:(turR x).2.1.Bd 131072 131072:=by rw [h4];exact (fits_bd h3).mono (by omega) (by omega)
    refine ⟨⟨hb,p0,by omega⟩,br_intro (fun k=>.inr ?_) fun k=>?_⟩
    · rw [ofTp,if_pos h0,if_neg (neI_true.1 k)];rfl
    have e2:=neI_false.1 k
    refine ⟨⟨?_,k0,k1⟩,.inl ?_⟩
    · rcases nearT_ok f.p l1 l2 p0 p1 (p':=8) (by decide) (by decide) with ⟨S,C,t,e,two,_⟩|⟨e,_⟩
      · rw [e];exact ⟨right_eB two.s.r,right_eB two.c.r⟩
      · rw [e] at e2;cases e2
    · rw [ofTp,if_pos h0,if_pos e2];rfl⟩
def tBp:Spec:=specK [.d,.i .i64] fun (x:Dx) (p:Int)=>(none,reT2 (bothTp x p))
theorem sBp_ok:SpecsOk Tryz.prog (sBp ofTp (fun _ p=>8≤p∧p≤2064) trimV):=⟨tOf_ok,rTrim_ok,trivial⟩
theorem tBp_ok:SpecOk Tryz.prog 19 tBp :=
  specKW_ok (envOk tysT_ok sBp_ok) mixed Tryz.func19 rfl (by decide) (by decide) fun (x:Dx) hw (p:Int) _ hp=>⟨fun _=>none,0,by
    have hx:=Dx.Wf.m0 hw
    show execF _ _ _ _ _ (fun t=>t=reT2 (bothTp x p)∨fgT t=reT2 (bothTp x p))
    refine (tBp_vc x p ofTp _ trimV _).mpr (br_intro (fun h=>.inr ?_) fun h=>br_intro (fun h'=>.inr ?_) fun h'=>?_)
    · have:=ltI_true.1 h
      rw [bothTp,if_neg (by omega)];rfl
    · have:=ltI_true.1 h'
      rw [bothTp,if_neg (by omega)];rfl
    have a:=ltI_false.1 h
    have b:=ltI_false.1 h'
    refine ⟨⟨by omega,by omega⟩,br_intro (fun k=>.inr ?_) fun k=>?_⟩
    · rw [bothTp,if_pos ⟨by omega,by omega⟩,if_neg (neI_true.1 k)];rfl
    have e:=neI_false.1 k
    obtain ⟨s,c,hs,hc⟩:=of_half hx (by omega) (by omega) e
    refine ⟨⟨by omega,by omega⟩,⟨(right_sm hs.r).mono (by omega),by omega,by omega⟩,⟨by omega,by omega⟩,⟨(right_sm hc.r).mono (by omega),by omega,by omega⟩,rfl,.inr ?_⟩
    rw [bothTp,if_pos ⟨by omega,by omega⟩,if_pos e];rfl⟩
structure Lft (r:Dx):Prop where
  f:OneF r
  b:r.Bd 32768 8
  l:-(1/4)≤r.rv
  h:r.rv≤1/4
theorem tur_lft{x:Dx}(hx:0≤x.m)(h:(turR x).2.2=0):Lft (turR x).2.1∧0≤(turR x).1∧(turR x).1≤3:=by
  obtain ⟨f,l1,l2,k0,k1⟩:=tur_small hx h
  obtain ⟨_,_,h3,h4⟩:=tur_ok h
  refine ⟨⟨f,small_bd f (by rw [h4];exact h3) (by grind) (by grind),l1,l2⟩,k0,k1⟩
theorem SpecOk.weaken{P:Program}{f:FuncId}{sp sp':Spec}(h:SpecOk P f sp)(k:∀ l,(match (sp' l).1 with | none=>True | some p=>p)→(match (sp l).1 with | none=>True | some p=>p)∧(sp' l).2=(sp l).2):SpecOk P f sp' :=
  ⟨h.fn,fun C w vs l hC hX hT hvs hp=>by
    obtain ⟨a,b⟩:=k l hp
    rw [b];exact h.run C w vs l hC hX hT hvs a⟩
def tyIv2:TyRow:=⟨122,12,true,zV ++ zV,.array 2 6 true⟩
def tyTn:TyRow:=⟨124,4,true,[.int .i64 0,.int .i64 0,.bool false,.bool false],.struct [(0,1,false),(1,1,false),(2,1,false),(3,1,false)]⟩
def tyTn4:TyRow:=⟨125,16,true,[.int .i64 0,.int .i64 0,.bool false,.bool false,.int .i64 0,.int .i64 0,.bool false,.bool false,.int .i64 0,.int .i64 0,.bool false,.bool false,.int .i64 0,.int .i64 0,.bool false,.bool false],.array 4 4 true⟩
def tysR:List TyRow:=tyTn4 :: tyTn :: tyIv2 :: tys4
theorem tysR_ok:RowsOk Tryz.prog tysR:=⟨by kernel_rfl,by kernel_rfl,by kernel_rfl,tys4_ok⟩
def sgnV(v:Vx)(b:Bool):Vx:=if b=true then turnV v else v
def wSg(g:Vx→Bool→Vx):Spec:=specK [.v,.b] fun (v:Vx) (b:Bool)=>(some (eB 4611686018427387904 v.lo∧eB 4611686018427387904 v.hi),vF (g v b))
theorem rSg_vc(v:Vx)(b:Bool)(Q:Tv→Prop):execF ⟨tysR,sRaw8⟩ (fun _=>none) 0 Tryz.f109 [.agg (ivL false v),.one (.bool b)] Q=(br b ((eB 4611686018427387904 v.lo∧eB 4611686018427387904 v.hi)∧Q (Tv.sv (Sv.agg (ivL true (turnV v))))) (Q (Tv.sv (Sv.agg (ivL false v))))):=by kernel_rfl
def sTb(K:Int)(pq:Dx→Int→Prop)(rf:Dx→Int→Vx×Int)(bo:Vx→Int→(Vx×Vx)×Int)(sg:Vx→Bool→Vx):List (FuncId×Spec):=[(6,specK [.d,.i .i64] fun (x:Dx) (p:Int)=>(some (pq x p),quT (K,rf x p))),(15,specK [.v,.i .i64] fun (v:Vx) (p:Int)=>(none,reT2 (bo v p))),(109,wSg sg)]
theorem rBo0_vc(x:Dx)(p:Int)(pq:Dx→Int→Prop)(rf:Dx→Int→Vx×Int)(bo:Vx→Int→(Vx×Vx)×Int)(sg:Vx→Bool→Vx)(Q:Tv→Prop):execF ⟨tysR,sTb 0 pq rf bo sg⟩ (fun _=>none) 0 Tryz.f64 [.agg (dyL false x),.one (.int .i64 p)] Q=(inR (p+32)∧pq x (p+32)∧br (neI (rf x (p+32)).snd 0) (Q (Tv.tup [Sv.agg [At.bool false,At.words true [],At.int .i64 0,At.bool false,At.words true [],At.int .i64 0],Sv.agg [At.bool false,At.words true [],At.int .i64 0,At.bool false,At.words true [],At.int .i64 0],Sv.one (At.int .i64 (rf x (p+32)).snd)])) (inR (p+24)∧((0:Int)≤0∧(0:Int)<(↑(2:Nat):Int))∧((0:Int)≤1∧(1:Int)<(↑(2:Nat):Int))∧br (neI (bo (rf x (p+32)).fst (p+24)).snd 0) (Q (Tv.tup [Sv.agg [At.bool false,At.words true [],At.int .i64 0,At.bool false,At.words true [],At.int .i64 0],Sv.agg [At.bool false,At.words true [],At.int .i64 0,At.bool false,At.words true [],At.int .i64 0],Sv.one (At.int .i64 (bo (rf x (p+32)).fst (p+24)).snd)])) (((0:Int)≤0∧(0:Int)<(↑(4:Nat):Int))∧((0:Int)≤0∧(0:Int)<(↑(2:Nat):Int))∧(eB 4611686018427387904 (bo (rf x (p+32)).fst (p+24)).fst.fst.lo∧eB 4611686018427387904 (bo (rf x (p+32)).fst (p+24)).fst.fst.hi)∧((0:Int)≤1∧(1:Int)<(↑(2:Nat):Int))∧(eB 4611686018427387904 (bo (rf x (p+32)).fst (p+24)).fst.snd.lo∧eB 4611686018427387904 (bo (rf x (p+32)).fst (p+24)).fst.snd.hi)∧true=true∧Q (Tv.tup [Sv.agg (ivL false (sg (bo (rf x (p+32)).fst (p+24)).fst.fst false)),Sv.agg (ivL false (sg (bo (rf x (p+32)).fst (p+24)).fst.snd false)),Sv.one (At.int .i64 0)])))):=by kernel_rfl
theorem rBo1_vc(x:Dx)(p:Int)(pq:Dx→Int→Prop)(rf:Dx→Int→Vx×Int)(bo:Vx→Int→(Vx×Vx)×Int)(sg:Vx→Bool→Vx)(Q:Tv→Prop):execF ⟨tysR,sTb 1 pq rf bo sg⟩ (fun _=>none) 0 Tryz.f64 [.agg (dyL false x),.one (.int .i64 p)] Q=(inR (p+32)∧pq x (p+32)∧br (neI (rf x (p+32)).snd 0) (Q (Tv.tup [Sv.agg [At.bool false,At.words true [],At.int .i64 0,At.bool false,At.words true [],At.int .i64 0],Sv.agg [At.bool false,At.words true [],At.int .i64 0,At.bool false,At.words true [],At.int .i64 0],Sv.one (At.int .i64 (rf x (p+32)).snd)])) (inR (p+24)∧((0:Int)≤0∧(0:Int)<(↑(2:Nat):Int))∧((0:Int)≤1∧(1:Int)<(↑(2:Nat):Int))∧br (neI (bo (rf x (p+32)).fst (p+24)).snd 0) (Q (Tv.tup [Sv.agg [At.bool false,At.words true [],At.int .i64 0,At.bool false,At.words true [],At.int .i64 0],Sv.agg [At.bool false,At.words true [],At.int .i64 0,At.bool false,At.words true [],At.int .i64 0],Sv.one (At.int .i64 (bo (rf x (p+32)).fst (p+24)).snd)])) (((0:Int)≤1∧(1:Int)<(↑(4:Nat):Int))∧((0:Int)≤1∧(1:Int)<(↑(2:Nat):Int))∧(eB 4611686018427387904 (bo (rf x (p+32)).fst (p+24)).fst.snd.lo∧eB 4611686018427387904 (bo (rf x (p+32)).fst (p+24)).fst.snd.hi)∧((0:Int)≤0∧(0:Int)<(↑(2:Nat):Int))∧(eB 4611686018427387904 (bo (rf x (p+32)).fst (p+24)).fst.fst.lo∧eB 4611686018427387904 (bo (rf x (p+32)).fst (p+24)).fst.fst.hi)∧true=true∧Q (Tv.tup [Sv.agg (ivL false (sg (bo (rf x (p+32)).fst (p+24)).fst.snd false)),Sv.agg (ivL false (sg (bo (rf x (p+32)).fst (p+24)).fst.fst true)),Sv.one (At.int .i64 0)])))):=by kernel_rfl
theorem rBo2_vc(x:Dx)(p:Int)(pq:Dx→Int→Prop)(rf:Dx→Int→Vx×Int)(bo:Vx→Int→(Vx×Vx)×Int)(sg:Vx→Bool→Vx)(Q:Tv→Prop):execF ⟨tysR,sTb 2 pq rf bo sg⟩ (fun _=>none) 0 Tryz.f64 [.agg (dyL false x),.one (.int .i64 p)] Q=(inR (p+32)∧pq x (p+32)∧br (neI (rf x (p+32)).snd 0) (Q (Tv.tup [Sv.agg [At.bool false,At.words true [],At.int .i64 0,At.bool false,At.words true [],At.int .i64 0],Sv.agg [At.bool false,At.words true [],At.int .i64 0,At.bool false,At.words true [],At.int .i64 0],Sv.one (At.int .i64 (rf x (p+32)).snd)])) (inR (p+24)∧((0:Int)≤0∧(0:Int)<(↑(2:Nat):Int))∧((0:Int)≤1∧(1:Int)<(↑(2:Nat):Int))∧br (neI (bo (rf x (p+32)).fst (p+24)).snd 0) (Q (Tv.tup [Sv.agg [At.bool false,At.words true [],At.int .i64 0,At.bool false,At.words true [],At.int .i64 0],Sv.agg [At.bool false,At.words true [],At.int .i64 0,At.bool false,At.words true [],At.int .i64 0],Sv.one (At.int .i64 (bo (rf x (p+32)).fst (p+24)).snd)])) (((0:Int)≤2∧(2:Int)<(↑(4:Nat):Int))∧((0:Int)≤0∧(0:Int)<(↑(2:Nat):Int))∧(eB 4611686018427387904 (bo (rf x (p+32)).fst (p+24)).fst.fst.lo∧eB 4611686018427387904 (bo (rf x (p+32)).fst (p+24)).fst.fst.hi)∧((0:Int)≤1∧(1:Int)<(↑(2:Nat):Int))∧(eB 4611686018427387904 (bo (rf x (p+32)).fst (p+24)).fst.snd.lo∧eB 4611686018427387904 (bo (rf x (p+32)).fst (p+24)).fst.snd.hi)∧true=true∧Q (Tv.tup [Sv.agg (ivL false (sg (bo (rf x (p+32)).fst (p+24)).fst.fst true)),Sv.agg (ivL false (sg (bo (rf x (p+32)).fst (p+24)).fst.snd true)),Sv.one (At.int .i64 0)])))):=by kernel_rfl
theorem rBo3_vc(x:Dx)(p:Int)(pq:Dx→Int→Prop)(rf:Dx→Int→Vx×Int)(bo:Vx→Int→(Vx×Vx)×Int)(sg:Vx→Bool→Vx)(Q:Tv→Prop):execF ⟨tysR,sTb 3 pq rf bo sg⟩ (fun _=>none) 0 Tryz.f64 [.agg (dyL false x),.one (.int .i64 p)] Q=(inR (p+32)∧pq x (p+32)∧br (neI (rf x (p+32)).snd 0) (Q (Tv.tup [Sv.agg [At.bool false,At.words true [],At.int .i64 0,At.bool false,At.words true [],At.int .i64 0],Sv.agg [At.bool false,At.words true [],At.int .i64 0,At.bool false,At.words true [],At.int .i64 0],Sv.one (At.int .i64 (rf x (p+32)).snd)])) (inR (p+24)∧((0:Int)≤0∧(0:Int)<(↑(2:Nat):Int))∧((0:Int)≤1∧(1:Int)<(↑(2:Nat):Int))∧br (neI (bo (rf x (p+32)).fst (p+24)).snd 0) (Q (Tv.tup [Sv.agg [At.bool false,At.words true [],At.int .i64 0,At.bool false,At.words true [],At.int .i64 0],Sv.agg [At.bool false,At.words true [],At.int .i64 0,At.bool false,At.words true [],At.int .i64 0],Sv.one (At.int .i64 (bo (rf x (p+32)).fst (p+24)).snd)])) (((0:Int)≤3∧(3:Int)<(↑(4:Nat):Int))∧((0:Int)≤1∧(1:Int)<(↑(2:Nat):Int))∧(eB 4611686018427387904 (bo (rf x (p+32)).fst (p+24)).fst.snd.lo∧eB 4611686018427387904 (bo (rf x (p+32)).fst (p+24)).fst.snd.hi)∧((0:Int)≤0∧(0:Int)<(↑(2:Nat):Int))∧(eB 4611686018427387904 (bo (rf x (p+32)).fst (p+24)).fst.fst.lo∧eB 4611686018427387904 (bo (rf x (p+32)).fst (p+24)).fst.fst.hi)∧true=true∧Q (Tv.tup [Sv.agg (ivL false (sg (bo (rf x (p+32)).fst (p+24)).fst.snd true)),Sv.agg (ivL false (sg (bo (rf x (p+32)).fst (p+24)).fst.fst false)),Sv.one (At.int .i64 0)])))):=by kernel_rfl
def WkK:(ks:List Ak)→AFun ks→AFun ks→Prop
  | [],g,g'=>(match g'.1 with | none=>True | some p=>p)→(match g.1 with | none=>True | some p=>p)∧g'.2=g.2
  | _ :: ks,g,g'=>∀ x,WkK ks (g x) (g' x)
theorem specK_weaken:∀ {ks:List Ak} {g g':AFun ks},WkK ks g g'→∀ l,(match (specK ks g' l).1 with | none=>True | some p=>p)→(match (specK ks g l).1 with | none=>True | some p=>p)∧(specK ks g' l).2=(specK ks g l).2
  | [],_,_,h,[]=>h
  | [],_,_,_,_ :: _=>fun hp=>hp.elim
  | _ :: _,_,_,_,[]=>fun hp=>hp.elim
  | k :: ks,g,g',h,s :: l=>by
    have e:∀ g:AFun (k :: ks),specK (k :: ks) g (s :: l)=(match k.dec s with | some x=>specK ks (g x) l | none=>noSpec):=fun _=>rfl
    rw [e,e]
    cases k.dec s with
    | none=>exact fun hp=>hp.elim
    | some x=>exact specK_weaken (h x) l
theorem rSg_ok:SpecOk Tryz.prog 109 (wSg sgnV) :=
  specKW_ok (envOk tysR_ok sRaw8_ok) mixed Tryz.func109 rfl (by decide) (by decide) fun (v:Vx) _ (b:Bool) _ hp=>⟨fun _=>none,0,by
    show execF _ _ _ _ _ (fun t=>t=vF (sgnV v b)∨fgT t=vF (sgnV v b))
    refine (rSg_vc v b _).mpr (br_intro (fun h=>⟨hp,.inr ?_⟩) fun h=>.inl ?_)
    · rw [sgnV,if_pos h];rfl
    · rw [sgnV,if_neg (by rw [h];simp)];rfl⟩
def wTr(g:Dx→Int→(Vx×Vx)×Int):Spec:=specK [.d,.i .i64] fun (x:Dx) (p:Int)=>(some (8≤p∧p≤2064),reT2 (g x p))
theorem sTb_ok(K:Int):SpecsOk Tryz.prog (sTb K (fun x p=>(quarR x p).1=K) (fun x p=>(quarR x p).2) bothR sgnV) :=
  ⟨qQu_ok.weaken (specK_weaken fun (x:Dx) (p:Int) (hk:(quarR x p).1=K)=>⟨trivial,by rw [←hk]⟩),rBoth_ok,rSg_ok,trivial⟩
theorem quar_four{x:Dx}(hx:0≤x.m)(p:Int):(quarR x p).1=0∨(quarR x p).1=1∨(quarR x p).1=2∨(quarR x p).1=3:=by
  by_cases h:(quarR x p).2.2=0
  · obtain ⟨n,e,_⟩:=quar_num hx h
    omega
  · left
    rcases quar_cases x p with ⟨_,q⟩|⟨_,_,q⟩|⟨_,_,_,q⟩|⟨_,_,_,q⟩|⟨_,_,_,w,q⟩
    · rw [q]
    · rw [q]
    · rw [q]
    · rw [q]
    · rw [q.eq] at h;exact absurd rfl h
theorem right_eB2{v:Vx}(h:rightV v=true):eB 4611686018427387904 v.lo∧eB 4611686018427387904 v.hi:=⟨(fits_sm (right_fits h).1).eB (by omega),(fits_sm (right_fits h).2.1).eB (by omega)⟩
theorem both_eB{x:Dx}(hx:0≤x.m){p:Int}(p0:8≤p)(p1:p≤2064)(h:(quarR x (p+32)).2.2=0)(k:(bothR (quarR x (p+32)).2.1 (p+24)).2=0):(eB 4611686018427387904 (bothR (quarR x (p+32)).2.1 (p+24)).1.1.lo∧eB 4611686018427387904 (bothR (quarR x (p+32)).2.1 (p+24)).1.1.hi)∧eB 4611686018427387904 (bothR (quarR x (p+32)).2.1 (p+24)).1.2.lo∧eB 4611686018427387904 (bothR (quarR x (p+32)).2.1 (p+24)).1.2.hi:=by
  obtain ⟨n,_,Q⟩:=quar_num hx h
  rcases qnum_pair Q p0 p1 with ⟨e,_⟩|⟨S,C,e,_,K⟩
  · rw [e] at k;cases k
  · rw [e];exact ⟨right_eB2 K.sr,right_eB2 K.cr⟩
theorem tr0(b:Vx×Vx):turnP 0 b=b:=by rw [turnP,if_neg (by decide),if_neg (by decide),if_neg (by decide)]
theorem tr1(b:Vx×Vx):turnP 1 b=(b.2,turnV b.1):=by rw [turnP,if_pos rfl]
theorem tr2(b:Vx×Vx):turnP 2 b=(turnV b.1,turnV b.2):=by rw [turnP,if_neg (by decide),if_pos rfl]
theorem tr3(b:Vx×Vx):turnP 3 b=(turnV b.2,b.1):=by rw [turnP,if_neg (by decide),if_neg (by decide),if_pos rfl]
theorem rBo_ok0{x:Dx}(hx:0≤x.m){p:Int}(p0:8≤p)(p1:p≤2064)(hk:(quarR x (p+32)).1=0):execF ⟨tysR,sTb 0 (fun x p=>(quarR x p).1=0) (fun x p=>(quarR x p).2) bothR sgnV⟩ (fun _=>none) 0 Tryz.f64 [.agg (dyL false x),.one (.int .i64 p)] (fun t=>t=reT2 (bothTr x p)∨fgT t=reT2 (bothTr x p)):=by
  refine (rBo0_vc x p _ (fun x p=>(quarR x p).2) bothR sgnV _).mpr ⟨⟨by omega,by omega⟩,hk,br_intro (fun h=>.inr ?_) fun h=>⟨⟨by omega,by omega⟩,⟨by omega,by omega⟩,⟨by omega,by omega⟩,br_intro (fun k=>.inr ?_) fun k=>?_⟩⟩
  · rw [bothTr,if_neg (neI_true.1 h)];rfl
  · rw [bothTr,if_pos (neI_false.1 h),if_neg (neI_true.1 k)];rfl
  · obtain ⟨e1,e2⟩:=both_eB hx p0 p1 (neI_false.1 h) (neI_false.1 k)
    refine ⟨⟨by omega,by omega⟩,⟨by omega,by omega⟩,e1,⟨by omega,by omega⟩,e2,rfl,.inl ?_⟩
    rw [bothTr,if_pos (neI_false.1 h),if_pos (neI_false.1 k),hk,tr0];rfl
theorem rBo_ok1{x:Dx}(hx:0≤x.m){p:Int}(p0:8≤p)(p1:p≤2064)(hk:(quarR x (p+32)).1=1):execF ⟨tysR,sTb 1 (fun x p=>(quarR x p).1=1) (fun x p=>(quarR x p).2) bothR sgnV⟩ (fun _=>none) 0 Tryz.f64 [.agg (dyL false x),.one (.int .i64 p)] (fun t=>t=reT2 (bothTr x p)∨fgT t=reT2 (bothTr x p)):=by
  refine (rBo1_vc x p _ (fun x p=>(quarR x p).2) bothR sgnV _).mpr ⟨⟨by omega,by omega⟩,hk,br_intro (fun h=>.inr ?_) fun h=>⟨⟨by omega,by omega⟩,⟨by omega,by omega⟩,⟨by omega,by omega⟩,br_intro (fun k=>.inr ?_) fun k=>?_⟩⟩
  · rw [bothTr,if_neg (neI_true.1 h)];rfl
  · rw [bothTr,if_pos (neI_false.1 h),if_neg (neI_true.1 k)];rfl
  · obtain ⟨e1,e2⟩:=both_eB hx p0 p1 (neI_false.1 h) (neI_false.1 k)
    refine ⟨⟨by omega,by omega⟩,⟨by omega,by omega⟩,e2,⟨by omega,by omega⟩,e1,rfl,.inl ?_⟩
    rw [bothTr,if_pos (neI_false.1 h),if_pos (neI_false.1 k),hk,tr1];rfl
theorem rBo_ok2{x:Dx}(hx:0≤x.m){p:Int}(p0:8≤p)(p1:p≤2064)(hk:(quarR x (p+32)).1=2):execF ⟨tysR,sTb 2 (fun x p=>(quarR x p).1=2) (fun x p=>(quarR x p).2) bothR sgnV⟩ (fun _=>none) 0 Tryz.f64 [.agg (dyL false x),.one (.int .i64 p)] (fun t=>t=reT2 (bothTr x p)∨fgT t=reT2 (bothTr x p)):=by
  refine (rBo2_vc x p _ (fun x p=>(quarR x p).2) bothR sgnV _).mpr ⟨⟨by omega,by omega⟩,hk,br_intro (fun h=>.inr ?_) fun h=>⟨⟨by omega,by omega⟩,⟨by omega,by omega⟩,⟨by omega,by omega⟩,br_intro (fun k=>.inr ?_) fun k=>?_⟩⟩
  · rw [bothTr,if_neg (neI_true.1 h)];rfl
  · rw [bothTr,if_pos (neI_false.1 h),if_neg (neI_true.1 k)];rfl
  · obtain ⟨e1,e2⟩:=both_eB hx p0 p1 (neI_false.1 h) (neI_false.1 k)
    refine ⟨⟨by omega,by omega⟩,⟨by omega,by omega⟩,e1,⟨by omega,by omega⟩,e2,rfl,.inl ?_⟩
    rw [bothTr,if_pos (neI_false.1 h),if_pos (neI_false.1 k),hk,tr2];rfl
theorem rBo_ok3{x:Dx}(hx:0≤x.m){p:Int}(p0:8≤p)(p1:p≤2064)(hk:(quarR x (p+32)).1=3):execF ⟨tysR,sTb 3 (fun x p=>(quarR x p).1=3) (fun x p=>(quarR x p).2) bothR sgnV⟩ (fun _=>none) 0 Tryz.f64 [.agg (dyL false x),.one (.int .i64 p)] (fun t=>t=reT2 (bothTr x p)∨fgT t=reT2 (bothTr x p)):=by
  refine (rBo3_vc x p _ (fun x p=>(quarR x p).2) bothR sgnV _).mpr ⟨⟨by omega,by omega⟩,hk,br_intro (fun h=>.inr ?_) fun h=>⟨⟨by omega,by omega⟩,⟨by omega,by omega⟩,⟨by omega,by omega⟩,br_intro (fun k=>.inr ?_) fun k=>?_⟩⟩
  · rw [bothTr,if_neg (neI_true.1 h)];rfl
  · rw [bothTr,if_pos (neI_false.1 h),if_neg (neI_true.1 k)];rfl
  · obtain ⟨e1,e2⟩:=both_eB hx p0 p1 (neI_false.1 h) (neI_false.1 k)
    refine ⟨⟨by omega,by omega⟩,⟨by omega,by omega⟩,e2,⟨by omega,by omega⟩,e1,rfl,.inl ?_⟩
    rw [bothTr,if_pos (neI_false.1 h),if_pos (neI_false.1 k),hk,tr3];rfl
theorem specK_cons{k:Ak}{ks:List Ak}{g:AFun (k :: ks)}{s:Sv}{l:List Sv}:specK (k :: ks) g (s :: l)=(match k.dec s with | some x=>specK ks (g x) l | none=>noSpec):=rfl
theorem specK_di{g:AFun [.d,.i .i64]}{s s':Sv}{x:Dx}{p:Int}(hd:Ak.dec .d s=some x)(hi:Ak.dec (.i .i64) s'=some p):specK [.d,.i .i64] g [s,s']=g x p:=by
  rw [specK_cons,hd]
  show specK [.i .i64] (g x) [s']=_
  rw [specK_cons,hi]
  rfl
theorem specK_di_inv{g:AFun [.d,.i .i64]}:∀ {l:List Sv},(match (specK [.d,.i .i64] g l).1 with | none=>True | some p=>p)→∃ s s' x p,l = [s,s']∧Ak.dec .d s=some x∧Ak.dec (.i .i64) s'=some p
  | [],hp=>hp.elim
  | s :: l,hp=>by
    rw [specK_cons] at hp
    cases h:Ak.dec .d s with
    | none=>rw [h] at hp;exact hp.elim
    | some x =>
      rw [h] at hp
      have hp:(match (specK [.i .i64] (g x) l).1 with | none=>True | some p=>p):=hp
      cases l with
      | nil=>exact hp.elim
      | cons s' l =>
        rw [specK_cons] at hp
        cases k:Ak.dec (.i .i64) s' with
        | none=>rw [k] at hp;exact hp.elim
        | some p =>
          rw [k] at hp
          have hp:(match (specK [] (g x p) l).1 with | none=>True | some p=>p):=hp
          cases l with
          | nil=>exact ⟨s,s',x,p,rfl,h,k⟩
          | cons=>exact hp.elim
theorem SpecOk.cases4{P:Program}{f:FuncId}{pr:Dx→Int→Prop}{g:Dx→Int→Tv}(G:AFun [.d,.i .i64])(Gk:Int→AFun [.d,.i .i64])(K:Dx→Int→Int)(hK:∀ {x:Dx},Dx.Wf x→∀ p,K x p=0∨K x p=1∨K x p=2∨K x p=3)
    (e:∀ (x:Dx) (p:Int),G x p=(some (pr x p),g x p)) (ek:∀ (k:Int) (x:Dx) (p:Int),Gk k x p=(some (pr x p∧K x p=k),g x p)) (h:∀ k:Int,k=0∨k=1∨k=2∨k=3→SpecOk P f (specK [.d,.i .i64] (Gk k))) :
    SpecOk P f (specK [.d,.i .i64] G):=by
  refine ⟨(h 0 (.inl rfl)).fn,fun C w vs l hC hX hT hvs hp=>?_⟩
  obtain ⟨s,s',x,p,rfl,hd,hi⟩:=specK_di_inv hp
  have e1:=(specK_di (g:=G) hd hi).trans (e x p)
  rw [e1] at hp ⊢
  have wx:Dx.Wf x:=by
    cases vs with
    | nil=>exact hvs.elim
    | cons v vs=>exact (dec_ok (k:=.d) hd hvs.1).1
  have e2:=(specK_di (g:=Gk (K x p)) hd hi).trans (ek (K x p) x p)
  have:=(h (K x p) (hK wx p)).run C w vs [s,s'] hC hX hT hvs (by rw [e2];exact ⟨hp,rfl⟩)
  rw [e2] at this
  exact this
theorem rBo_ok:SpecOk Tryz.prog 64 (wTr bothTr):=by
  have one:∀ K:Int,(∀ {x:Dx} (_:0≤x.m) {p:Int} (_:8≤p) (_:p≤2064) (_:(quarR x (p+32)).1=K),execF ⟨tysR,sTb K (fun x p=>(quarR x p).1=K) (fun x p=>(quarR x p).2) bothR sgnV⟩ (fun _=>none) 0 Tryz.f64 [.agg (dyL false x),.one (.int .i64 p)] (fun t=>t=reT2 (bothTr x p)∨fgT t=reT2 (bothTr x p)))→SpecOk Tryz.prog 64 (specK [.d,.i .i64] fun (x:Dx) (p:Int)=>(some ((8≤p∧p≤2064)∧(quarR x (p+32)).1=K),reT2 (bothTr x p))):=fun K h =>
    specKW_ok (envOk tysR_ok (sTb_ok K)) mixed Tryz.func64 rfl (by decide) (by decide) fun (x:Dx) hw (p:Int) _ hp=>⟨fun _=>none,0,h (Dx.Wf.m0 hw) hp.1.1 hp.1.2 hp.2⟩
  exact SpecOk.cases4 (fun (x:Dx) (p:Int)=>(some (8≤p∧p≤2064),reT2 (bothTr x p))) (fun (k:Int) (x:Dx) (p:Int)=>(some ((8≤p∧p≤2064)∧(quarR x (p+32)).1=k),reT2 (bothTr x p))) (fun x p=>(quarR x (p+32)).1) (fun {x} hw p=>quar_four (Dx.Wf.m0 hw) (p+32)) (fun _ _=>rfl) (fun _ _ _=>rfl) fun k hk=>by
    rcases hk with rfl | rfl | rfl | rfl
    · exact one 0 rBo_ok0
    · exact one 1 rBo_ok1
    · exact one 2 rBo_ok2
    · exact one 3 rBo_ok3
def sBp17(ck:Dx→Int)(of:Dx→Int→(Vx×Vx)×Int)(tr:Vx→Int→Vx):List (FuncId×Spec):=[(63,specK [.d] fun (d:Dx)=>(none,iT (ck d))),(64,wTr of),(53,specK [.v,.i .i64] fun (v:Vx) (p:Int)=>(some (v.Sm 34359738368∧0≤p∧p≤1099511627776),vT (tr v p)))]
theorem rBp_vc(x:Dx)(p:Int)(ck:Dx→Int)(of:Dx→Int→(Vx×Vx)×Int)(tr:Vx→Int→Vx)(Q:Tv→Prop):execF ⟨tysR,sBp17 ck of tr⟩ (fun _=>none) 0 Tryz.f25 [.agg (dyL false x),.one (.int .i64 p)] Q=(br (neI (ck x) 0) (Q (Tv.tup [Sv.agg [At.bool false,At.words true [],At.int .i64 0,At.bool false,At.words true [],At.int .i64 0],Sv.agg [At.bool false,At.words true [],At.int .i64 0,At.bool false,At.words true [],At.int .i64 0],Sv.one (At.int .i64 2)])) (br (ltI p 8) (Q (Tv.tup [Sv.agg [At.bool false,At.words true [],At.int .i64 0,At.bool false,At.words true [],At.int .i64 0],Sv.agg [At.bool false,At.words true [],At.int .i64 0,At.bool false,At.words true [],At.int .i64 0],Sv.one (At.int .i64 2)])) (br (ltI 2048 p) (Q (Tv.tup [Sv.agg [At.bool false,At.words true [],At.int .i64 0,At.bool false,At.words true [],At.int .i64 0],Sv.agg [At.bool false,At.words true [],At.int .i64 0,At.bool false,At.words true [],At.int .i64 0],Sv.one (At.int .i64 2)])) (((8:Int)≤p∧p≤2064)∧br (neI (of x p).snd 0) (Q (Tv.tup [Sv.agg [At.bool false,At.words true [],At.int .i64 0,At.bool false,At.words true [],At.int .i64 0],Sv.agg [At.bool false,At.words true [],At.int .i64 0,At.bool false,At.words true [],At.int .i64 0],Sv.one (At.int .i64 (of x p).snd)])) (inR (p+8)∧(Vx.Sm 34359738368 (of x p).fst.fst∧(0:Int)≤p+8∧p+8≤1099511627776)∧inR (p+8)∧(Vx.Sm 34359738368 (of x p).fst.snd∧(0:Int)≤p+8∧p+8≤1099511627776)∧true=true∧Q (Tv.tup [Sv.agg (ivL true (tr (of x p).fst.fst (p+8))),Sv.agg (ivL true (tr (of x p).fst.snd (p+8))),Sv.one (At.int .i64 0)])))))):=by kernel_rfl
def bothTq(x:Dx)(p:Int):(Vx×Vx)×Int:=if chkD x=0∧8≤p∧p≤2048 then (if (bothTr x p).2=0 then ((trimV (bothTr x p).1.1 (p+8),trimV (bothTr x p).1.2 (p+8)),0) else ((zeroIv,zeroIv),(bothTr x p).2)) else ((zeroIv,zeroIv),2)
theorem bothTr_right{x:Dx}(hx:0≤x.m){p:Int}(p0:8≤p)(p1:p≤2064)(h:(bothTr x p).2=0):∃ s c,Half (p2 (-19-p)) (bothTr x p).1.1 s∧Half (p2 (-19-p)) (bothTr x p).1.2 c:=by
  unfold bothTr at h ⊢
  split at h
  · rename_i h1
    rw [if_pos h1]
    split at h
    · rename_i h2
      rw [if_pos h2]
      obtain ⟨n,_,Q⟩:=quar_num hx h1
      rcases qnum_pair Q p0 p1 with ⟨e,_⟩|⟨S,C,e,PQ,K⟩
      · rw [e] at h2;cases h2
      · rw [e]
        have c0:=K.c0
        have c1:=K.c1
        obtain ⟨a,b⟩:=turn_half (show Half (p2 (-19-p)) S (sinQ (rhS x.rv n)) from ⟨K.sp,K.sf,K.sr,K.st,K.s32,PQ.s⟩) (show Half (p2 (-19-p)) C (cosQ (rhS x.rv n)) from ⟨K.cp,K.cf,K.cr,.inr (.inl K.cn),⟨by grind,by grind⟩,PQ.c⟩) (quarR x (p+32)).1
        exact ⟨_,_,a,b⟩
    · rename_i h2;exact absurd h h2
  · rename_i h1;exact absurd h h1
def rBp:Spec:=specK [.d,.i .i64] fun (x:Dx) (p:Int)=>(none,reT2 (bothTq x p))
theorem sBp17_ok:SpecsOk Tryz.prog (sBp17 chkD bothTr trimV):=⟨dChk_ok,rBo_ok,rTrim_ok,trivial⟩
theorem rBp_ok:SpecOk Tryz.prog 25 rBp :=
  specKW_ok (envOk tysR_ok sBp17_ok) mixed Tryz.func25 rfl (by decide) (by decide) fun (x:Dx) hw (p:Int) _ _=>⟨fun _=>none,0,by
    have hx:=Dx.Wf.m0 hw
    show execF _ _ _ _ _ (fun t=>t=reT2 (bothTq x p)∨fgT t=reT2 (bothTq x p))
    refine (rBp_vc x p chkD bothTr trimV _).mpr (br_intro (fun h=>.inr ?_) fun h=>br_intro (fun h'=>.inr ?_) fun h'=>br_intro (fun h''=>.inr ?_) fun h''=>⟨⟨?_,?_⟩,br_intro (fun k=>.inr ?_) fun k=>?_⟩)
    · rw [bothTq,if_neg (fun c=>neI_true.1 h c.1)];rfl
    · have:=ltI_true.1 h'
      rw [bothTq,if_neg (by omega)];rfl
    · have:=ltI_true.1 h''
      rw [bothTq,if_neg (by omega)];rfl
    · have:=ltI_false.1 h';omega
    · have:=ltI_false.1 h'';omega
    all_goals
      have c:chkD x=0∧8≤p∧p≤2048:=⟨neI_false.1 h,by have:=ltI_false.1 h';omega,by have:=ltI_false.1 h'';omega⟩
    · rw [bothTq,if_pos c,if_neg (neI_true.1 k)];rfl
    · have e:=neI_false.1 k
      obtain ⟨s,t,hs,ht⟩:=bothTr_right hx c.2.1 (by omega) e
      refine ⟨⟨by omega,by omega⟩,⟨(right_sm hs.r).mono (by omega),by omega,by omega⟩,⟨by omega,by omega⟩,⟨(right_sm ht.r).mono (by omega),by omega,by omega⟩,rfl,.inr ?_⟩
      rw [bothTq,if_pos c,if_pos e];rfl⟩
def topX(x:Dx):Int:=x.e+blen x.m-1
def touchB(v u:Vx):Bool:=leI (cmpD v.lo u.hi) 0 && leI (cmpD u.lo v.hi) 0
def gTouch:Spec:=specK [.v,.v] fun (v:Vx) (u:Vx)=>(some (v.Sm 34359738368∧u.Sm 34359738368),bT (touchB v u))
theorem gTouch_vc(v u:Vx)(Q:Tv→Prop):execF ⟨tys2,sG1⟩ (fun _=>none) 0 Tryz.f65 [.agg (ivL false v),.agg (ivL false u)] Q=((Dx.Sm 34359738368 v.lo∧Dx.Sm 34359738368 u.hi)∧br (leI (cmpD v.lo u.hi) 0) ((Dx.Sm 34359738368 u.lo∧Dx.Sm 34359738368 v.hi)∧Q (bT (leI (cmpD u.lo v.hi) 0))) (Q (bT false))):=by kernel_rfl
theorem gTouch_ok:SpecOk Tryz.prog 65 gTouch :=
  specK_ok (envOk tys2_ok sG1_ok) mixed Tryz.func65 rfl (by decide) (by decide) fun (v:Vx) _ (u:Vx) _ hp=>⟨fun _=>none,0,by
    obtain ⟨s1,s2⟩:v.Sm 34359738368∧u.Sm 34359738368:=hp
    show execF _ _ _ _ _ (fun t=>t=bT (touchB v u))
    refine (gTouch_vc v u _).mpr ⟨⟨s1.1,s2.2⟩,br_intro (fun h=>⟨⟨s2.1,s1.2⟩,?_⟩) fun h=>?_⟩<;>rw [touchB,h]<;>rfl⟩
theorem touch_of{v u:Vx}(h:v.lo.rv≤u.hi.rv∧u.lo.rv≤v.hi.rv):touchB v u=true:=by
  rw [touchB,leI_true.2 (cmpD_le.2 h.1),leI_true.2 (cmpD_le.2 h.2)];rfl
def sgS(a:Nat→Rat)(n:Int)(i:Nat):Rat:=sinQ a i*cu n+cosQ a i*su n
def kpS(a:Nat→Rat)(n:Int)(i:Nat):Rat:=cosQ a i*cu n-sinQ a i*su n
theorem right_moreS{a c:Nat→Rat}(ha:EvB a 2){j:Int}(hj:-1≤j∧j≤1)(e:∀ i,c i=a i+(j:Rat)*htS (1/2) i):Near (sinQ c) (sgS a j)∧Near (cosQ c) (kpS a j):=by
  obtain ⟨t1,t2⟩:=half_turn
  obtain ⟨R,hR⟩:=ha
  have bs:AbS (sinQ (cutS R a)) 32:=AbS.sin (cutS_ab (by decide +kernel) hR)
  have bc:AbS (cosQ (cutS R a)) 32:=AbS.cos (cutS_ab (by decide +kernel) hR)
  have qs:∀ n,R≤n→sinQ (cutS R a) n=sinQ a n:=fun n hn=>by unfold sinQ;rw [cutS_eq _ hn]
  have qc:∀ n,R≤n→cosQ (cutS R a) n=cosQ a n:=fun n hn=>by unfold cosQ;rw [cutS_eq _ hn]
  have es:Near (sinQ (cutS R a)) (sinQ a):=Near.of_eq R qs
  have ec:Near (cosQ (cutS R a)) (cosQ a):=Near.of_eq R qc
  have key:∀ (b:Nat→Rat) (u v:Rat),Ab u 1→Ab v 1→EvB b 2→Near (sinQ b) (fun _=>v)→Near (cosQ b) (fun _=>u)→Near (sinQ fun n=>a n+b n) (fun i=>sinQ a i*u+cosQ a i*v)∧Near (cosQ fun n=>a n+b n) (fun i=>cosQ a i*u-sinQ a i*v):=by
    intro b u v hu hv hb s c
    obtain ⟨a1,a2⟩:=addE ⟨R,hR⟩ hb
    have fu:AbS (fun _=>u) 1:=fun _=>hu
    have fv:AbS (fun _=>v) 1:=fun _=>hv
    have x1:Near (fun i=>cosQ a i*sinQ b i) (fun i=>cosQ a i*v):=(Near.of_eq R fun n hn=>by rw [←qc n hn];grind).trans ((s.mul ec bc fv).congr (fun _=>rfl) (fun n=>by grind))
    have x2:Near (fun i=>sinQ a i*cosQ b i) (fun i=>sinQ a i*u):=(Near.of_eq R fun n hn=>by rw [←qs n hn];grind).trans ((c.mul es bs fu).congr (fun _=>rfl) (fun n=>by grind))
    have x3:Near (fun i=>cosQ a i*cosQ b i) (fun i=>cosQ a i*u):=(Near.of_eq R fun n hn=>by rw [←qc n hn];grind).trans ((c.mul ec bc fu).congr (fun _=>rfl) (fun n=>by grind))
    have x4:Near (fun i=>sinQ a i*sinQ b i) (fun i=>sinQ a i*v):=(Near.of_eq R fun n hn=>by rw [←qs n hn];grind).trans ((s.mul es bs fv).congr (fun _=>rfl) (fun n=>by grind))
    exact ⟨a1.trans ((x1.add x2).congr (fun _=>rfl) (fun i=>by grind)),a2.trans ((x3.sub x4).congr (fun _=>rfl) (fun i=>rfl))⟩
  have a0:Ab (0:Rat) 1:=⟨by decide +kernel,by decide +kernel⟩
  have a1:Ab (1:Rat) 1:=⟨by decide +kernel,by decide +kernel⟩
  have am:Ab (-1:Rat) 1:=⟨by decide +kernel,by decide +kernel⟩
  unfold sgS kpS
  rcases (show j=0∨j=1∨j = -1 by omega) with rfl | rfl | rfl
  · have eq:c=a:=funext fun i=>by rw [e i];have:((0:Int):Rat)=0:=rfl;rw [this];grind
    rw [eq,show cu 0=1 by decide +kernel,show su 0=0 by decide +kernel]
    exact ⟨Near.of_eq 0 fun n _=>by grind,Near.of_eq 0 fun n _=>by grind⟩
  · have eq:c=fun n=>a n+htS (1/2) n:=funext fun n=>by
      have:((1:Int):Rat)=1:=rfl
      rw [e n,this];grind
    rw [eq,show cu 1=0 by decide +kernel,show su 1=1 by decide +kernel]
    exact key _ 0 1 a0 a1 (ht_ev (by decide +kernel) (by decide +kernel)) t1 t2
  · have eq:c=fun n=>a n + -htS (1/2) n:=funext fun n=>by
      have:((-1:Int):Rat) = -1:=rfl
      rw [e n,this];grind
    rw [eq,show cu (-1)=0 by decide +kernel,show su (-1) = -1 by decide +kernel]
    obtain ⟨M,hM⟩:=ht_ev (r:=1/2) (by decide +kernel) (by decide +kernel)
    exact key (fun n=>-htS (1/2) n) 0 (-1) a0 am ⟨M,fun n hn=>(hM n hn).neg⟩ (t1.neg.congr (fun n=>sinQ_neg _ n) (fun _=>rfl)) (t2.congr (fun n=>cosQ_neg _ n) (fun _=>rfl))
def uT(n:Int):Tv:=.sv (.one (.int .u64 n))
theorem pAm_vc(x:Int)(Q:Tv→Prop):execF ⟨tysF,[]⟩ (fun _=>none) 0 Tryz.f68 [.one (.int .u64 x)] Q=(Q (Tv.sv (Sv.one (At.int .u64 (bitsI BinOp.andNot IntKind.u64 x 9223372036854775808))))):=by kernel_rfl
def pAm:Spec:=specK [.i .u64] fun (x:Int)=>(none,uT (bitsI .andNot .u64 x 9223372036854775808))
theorem pNu_vc(x:Int)(Q:Tv→Prop):execF ⟨tysF,[(68,pAm)]⟩ (fun _=>none) 0 Tryz.f67 [.one (.int .u64 x)] Q=(Q (bT (leI (bitsI BinOp.andNot IntKind.u64 x 9223372036854775808) 9218868437227405312))):=by kernel_rfl
def pNu:Spec:=specK [.i .u64] fun (x:Int)=>(none,bT (leI (bitsI .andNot .u64 x 9223372036854775808) 9218868437227405312))
theorem pUp_vc  (Q:Tv→Prop):execF ⟨tysF,[(68,pAm),(67,pNu)]⟩ (fun _=>none) 0 Tryz.f28 [.one (.int .u64 9223372036854775808)] Q=(Q (Tv.sv (Sv.one (At.int .u64 1)))):=by kernel_rfl
def pUp:Spec:=specK [.i .u64] fun (x:Int)=>(some (x=9223372036854775808),uT 1)
theorem pSp_vc  (Q:Tv→Prop):execF ⟨tysF,[]⟩ (fun _=>none) 0 Tryz.f69 [.one (.int .u64 9218868437227405312)] Q=((0:Int)≤52∧Q (Tv.sv (Sv.agg [At.bool (neI (bitsI BinOp.and IntKind.u64 9218868437227405312 9223372036854775808) 0),At.int .i64 (IntKind.wrap IntKind.i64 (bitsI BinOp.and IntKind.u64 (shrI IntKind.u64 9218868437227405312 52) 2047)),At.int .u64 (bitsI BinOp.and IntKind.u64 9218868437227405312 4503599627370495)]))):=by kernel_rfl
def pSp:Spec:=specK [.i .u64] fun (x:Int)=>(some (x=9218868437227405312),splX false 2047 0)
def tyCk:TyRow:=⟨59,1,false,[.int .u8 0],.int .u8⟩
theorem pCl_vc  (Q:Tv→Prop):execF ⟨tyCk :: tysF,[(69,pSp)]⟩ (fun _=>none) 0 Tryz.f29 [.one (.int .u64 9218868437227405312)] Q=((9218868437227405312:Int)=(9218868437227405312:Int)∧Q (Tv.sv (Sv.one (At.int .u8 4)))):=by kernel_rfl
def wPar:Spec:=fun l=>match l with
  | [.one (.lit v)]=>(some (v = .string ⟨twoL.toArray⟩),.tup [.one (.int .u8 17),.one (.int .i64 0)])
  | _=>noSpec
def pCl:Spec:=specK [.i .u64] fun (x:Int)=>(some (x=9218868437227405312),.sv (.one (.int .u8 4)))
def sBgt:List (FuncId×Spec):=[(27,wPar),(28,pUp),(29,pCl)]
theorem lBgt_vc(Q:Tv→Prop):execF ⟨tysF,sBgt⟩ (fun _=>none) 0 Tryz.f5 [] Q=(Value.string ⟨twoL.toArray⟩=Value.string ⟨twoL.toArray⟩∧(9223372036854775808:Int)=9223372036854775808∧(9218868437227405312:Int)=9218868437227405312∧Q (bT (eqI 17 17))):=by kernel_rfl
theorem lSt_vc(v:Vx)(w:Int)(Q:Tv→Prop):execF ⟨tys4,sG3⟩ (fun _=>none) 0 Tryz.f11 [.agg (ivL false v),.one (.int .i64 w)] Q=(br (eqI w 0) (br (!rightV v) (Q (Tv.tup [Sv.agg [At.bool false,At.words true [],At.int .i64 0,At.bool false,At.words true [],At.int .i64 0],Sv.one (At.int .i64 6)])) (Q (Tv.tup [Sv.agg (ivL false v),Sv.one (At.int .i64 w)]))) (Q (Tv.tup [Sv.agg (ivL false v),Sv.one (At.int .i64 w)]))):=by kernel_rfl
def wSt:Spec:=specK [.v,.i .i64] fun (v:Vx) (w:Int)=>(none,reT (sndR v w))
theorem lSs_vc(v u:Vx)(w:Int)(Q:Tv→Prop):execF ⟨tys4,sG3⟩ (fun _=>none) 0 Tryz.f14 [.agg (ivL false v),.agg (ivL false u),.one (.int .i64 w)] Q=(br (eqI w 0) (br (!rightV v) (Q (Tv.tup [Sv.agg [At.bool false,At.words true [],At.int .i64 0,At.bool false,At.words true [],At.int .i64 0],Sv.agg [At.bool false,At.words true [],At.int .i64 0,At.bool false,At.words true [],At.int .i64 0],Sv.one (At.int .i64 6)])) (br (!rightV u) (Q (Tv.tup [Sv.agg [At.bool false,At.words true [],At.int .i64 0,At.bool false,At.words true [],At.int .i64 0],Sv.agg [At.bool false,At.words true [],At.int .i64 0,At.bool false,At.words true [],At.int .i64 0],Sv.one (At.int .i64 6)])) (true=true∧Q (Tv.tup [Sv.agg (ivL false v),Sv.agg (ivL false u),Sv.one (At.int .i64 w)])))) (true=true∧Q (Tv.tup [Sv.agg (ivL false v),Sv.agg (ivL false u),Sv.one (At.int .i64 w)]))):=by kernel_rfl
def sndsR(r:(Vx×Vx)×Int):(Vx×Vx)×Int:=if r.2=0∧(rightV r.1.1=false∨rightV r.1.2=false) then ((zeroIv,zeroIv),6) else r
def wSs:Spec:=specK [.v,.v,.i .i64] fun (v:Vx) (u:Vx) (w:Int)=>(none,reT2 (sndsR ((v,u),w)))
theorem pAm_ok:SpecOk Tryz.prog 68 pAm :=
  specK_ok (envOk (S:=[]) tysF_ok trivial) mixed Tryz.func68 rfl (by decide) (by decide) fun (x:Int) _ _=>⟨fun _=>none,0,(pAm_vc x _).mpr rfl⟩
theorem pNu_ok:SpecOk Tryz.prog 67 pNu :=
  specK_ok (envOk (S:=[(68,pAm)]) tysF_ok ⟨pAm_ok,trivial⟩) mixed Tryz.func67 rfl (by decide) (by decide) fun (x:Int) _ _=>⟨fun _=>none,0,(pNu_vc x _).mpr rfl⟩
theorem pUp_ok:SpecOk Tryz.prog 28 pUp :=
  specK_ok (envOk (S:=[(68,pAm),(67,pNu)]) tysF_ok ⟨pAm_ok,pNu_ok,trivial⟩) mixed Tryz.func28 rfl (by decide) (by decide) fun (x:Int) _ hp=>⟨fun _=>none,0,by
    obtain rfl:x=9223372036854775808:=hp
    exact (pUp_vc _).mpr rfl⟩
theorem pSp_ok:SpecOk Tryz.prog 69 pSp :=
  specK_ok (envOk (S:=[]) tysF_ok trivial) mixed Tryz.func69 rfl (by decide) (by decide) fun (x:Int) _ hp=>⟨fun _=>none,0,by
    obtain rfl:x=9218868437227405312:=hp
    exact (pSp_vc _).mpr ⟨by omega,rfl⟩⟩
theorem tyCk_ok:RowsOk Tryz.prog (tyCk :: tysF):=⟨by kernel_rfl,tysF_ok⟩
theorem pCl_ok:SpecOk Tryz.prog 29 pCl :=
  specK_ok (envOk (S:=[(69,pSp)]) tyCk_ok ⟨pSp_ok,trivial⟩) mixed Tryz.func29 rfl (by decide) (by decide) fun (x:Int) _ hp=>⟨fun _=>none,0,by
    obtain rfl:x=9218868437227405312:=hp
    exact (pCl_vc _).mpr ⟨rfl,rfl⟩⟩
theorem wPar_l{l:List Sv}(hp:match (wPar l).1 with | none=>True | some p=>p):l = [.one (.lit (.string ⟨twoL.toArray⟩))]:=by
  match l with
  | []=>exact (hp:False).elim
  | [.agg _]=>exact (hp:False).elim
  | [.one a] =>
    cases a with
    | lit v=>rw [show v = .string ⟨twoL.toArray⟩ from hp]
    | _=>exact (hp:False).elim
  | a :: _ :: _ =>
    cases a with
    | agg=>exact (hp:False).elim
    | one a=>cases a<;>exact (hp:False).elim
theorem wPar_ok:SpecOk Tryz.prog 27 wPar where
  fn:=⟨_,_,Tryz.func27,by decide,rfl⟩
  run:=fun C w vs l hC hX hT hr hp=>by
    obtain rfl:=wPar_l hp
    match vs,hr with
    | [u],hr =>
      have hu:Rep C noBox w u (.lit (.string ⟨twoL.toArray⟩)):=hr.1
      cases hu with
      | lit _ =>
        refine parse_calls.mono ?_
        rintro e w' ⟨rfl,hb⟩
        exact ⟨_,rfl,⟨[.int .u8 17,.int .i64 0],rfl,Rep.int _ _,Rep.int _ _,trivial⟩,hb⟩
    | [],hr=>exact (hr:False).elim
    | _ :: _ :: _,hr=>exact (hr.2:False).elim
theorem sBgt_ok:SpecsOk Tryz.prog sBgt:=⟨wPar_ok,pUp_ok,pCl_ok,trivial⟩
theorem lBgt_ok:SpecOk Tryz.prog 5 wTrue :=
  specK_ok (envOk tysF_ok sBgt_ok) mixed Tryz.func5 rfl (by decide) (by decide) fun _=>⟨fun _=>none,0,(lBgt_vc _).mpr ⟨rfl,rfl,rfl,rfl⟩⟩
theorem lSt_ok:SpecOk Tryz.prog 11 wSt :=
  specKW_ok (envOk tys4_ok sG3_ok) mixed Tryz.func11 rfl (by decide) (by decide) fun (v:Vx) _ (w:Int) _ _=>⟨fun _=>none,0,by
    show execF _ _ _ _ _ (fun t=>t=reT (sndR v w)∨fgT t=reT (sndR v w))
    refine (lSt_vc v w _).mpr (br_intro (fun h=>br_intro (fun k=>.inr ?_) fun k=>.inl ?_) fun h=>.inl ?_)
    · rw [sndR,if_pos ⟨eqI_true.1 h,not_true k⟩];rfl
    · rw [sndR,if_neg (fun c=>by rw [not_false' k] at c;exact absurd c.2 (by decide))];rfl
    · rw [sndR,if_neg (fun c=>eqI_false.1 h c.1)];rfl⟩
theorem lSs_ok:SpecOk Tryz.prog 14 wSs :=
  specKW_ok (envOk tys4_ok sG3_ok) mixed Tryz.func14 rfl (by decide) (by decide) fun (v:Vx) _ (u:Vx) _ (w:Int) _ _=>⟨fun _=>none,0,by
    show execF _ _ _ _ _ (fun t=>t=reT2 (sndsR ((v,u),w))∨fgT t=reT2 (sndsR ((v,u),w)))
    refine (lSs_vc v u w _).mpr (br_intro (fun h=>br_intro (fun k=>.inr ?_) fun k=>br_intro (fun k'=>.inr ?_) fun k'=>⟨rfl,.inl ?_⟩) fun h=>⟨rfl,.inl ?_⟩)
    · rw [sndsR,if_pos ⟨eqI_true.1 h,.inl (not_true k)⟩];rfl
    · rw [sndsR,if_pos ⟨eqI_true.1 h,.inr (not_true k')⟩];rfl
    · rw [sndsR,if_neg (fun c=>by rcases c.2 with c | c<;>simp only [not_false' k,not_false' k'] at c<;>cases c)];rfl
    · rw [sndsR,if_neg (fun c=>eqI_false.1 h c.1)];rfl⟩
theorem snds_ok{r:(Vx×Vx)×Int}(h:(sndsR r).2=0):r.2=0∧sndsR r=r:=by
  unfold sndsR at h ⊢
  split at h
  · cases h
  · rename_i c;rw [if_neg c];exact ⟨h,rfl⟩
theorem alt2_zero:∀ n,altS 2 0 n≤1∧(1≤n→altS 2 0 n=1)
  | 0=>⟨by show (0:Rat)≤1;decide +kernel,fun h=>by omega⟩
  | 1=>by
    have e:altS 2 0 1=1:=by show 0+alt 0*1=(1:Rat);rw [show alt 0=1 from rfl];grind
    rw [e];exact ⟨Rat.le_refl,fun _=>rfl⟩
  | n+2=>by
    obtain ⟨_,h⟩:=alt2_zero (n+1)
    have z:tmf 2 0 (n+1)=0:=by show tmf 2 0 n*0*_*_=0;grind
    have e:altS 2 0 (n+2)=1:=by
      show altS 2 0 (n+1)+alt (n+1)*tmf 2 0 (n+1)=1
      rw [h (by omega),z];grind
    rw [e];exact ⟨Rat.le_refl,fun _=>rfl⟩
theorem sinS_le{t:Rat}(h0:0≤t)(h1:t≤1)(n:Nat):0≤sinS t n∧sinS t n≤t:=by
  constructor
  · have:=sinS_mono0 (Rat.le_refl (a:=0)) h0 h1 n
    rwa [sinS_zero] at this
  · rw [sinS_alt]
    have y1:t*t≤1:=by have:=rmL h1 h0;grind
    have a:=altS2_anti (Rat.le_refl (a:=0)) (rmN h0 h0) y1 n
    have b:=rmL (show altS 2 (t*t) n≤1 by have:=(alt2_zero n).1;grind) h0
    grind
theorem sin_le_ab{t K:Rat}(h1:Ab t 1)(h:Ab t K)(n:Nat):Ab (sinS t n) K:=by
  obtain ⟨k1,k2⟩:=h
  rcases (show 0≤t∨t≤0 by grind) with c | c
  · obtain ⟨a,b⟩:=sinS_le c h1.2 n
    exact ⟨by grind,by grind⟩
  · obtain ⟨a,b⟩:=sinS_le (t:=-t) (by grind) (by have:=h1.1;grind) n
    rw [sinS_neg] at a b
    exact ⟨by grind,by grind⟩
theorem sgkp_sq2(a:Nat→Rat)(n:Int)(i:Nat):kpS a n i*kpS a n i+sgS a n i*sgS a n i=cosQ a i*cosQ a i+sinQ a i*sinQ a i:=by
  unfold kpS sgS
  rcases cu_val n with ⟨_,h,k⟩|⟨_,h,k⟩|⟨_,h,k⟩|⟨_,h,k⟩<;>rw [h,k]<;>grind
theorem turned_le1{g:Nat→Rat}(hg:EvB g 2)(n:Int){e:Rat}(he:0<e):∃ N,∀ i,N≤i→Ab (sgS g n i) (1+e)∧Ab (kpS g n i) (1+e):=by
  obtain ⟨N,hN⟩:=circleE hg e he
  refine ⟨N,fun i hi=>?_⟩
  obtain ⟨h1,_⟩:=hN i hi
  have s:=sgkp_sq2 g n i
  have key:∀ x y:Rat,x*x+y*y≤1+e→x≤1+e:=fun x y h=>by
    refine Classical.byContradiction fun k=>?_
    have k:1+e<x:=by grind
    have a:=Rat.mul_lt_mul_of_pos_left k (show 0<x by grind)
    have b:=Rat.mul_lt_mul_of_pos_left k (show 0<1+e by grind)
    have c:0≤y*y:=by
      rcases (show 0≤y∨0≤-y by grind) with q | q
      · exact rmN q q
      · have:=rmN q q;grind
    have d:0<e*e:=Rat.mul_pos he he
    grind
  have q1:=key (sgS g n i) (kpS g n i) (by grind)
  have q2:=key (-sgS g n i) (kpS g n i) (by grind)
  have q3:=key (kpS g n i) (sgS g n i) (by grind)
  have q4:=key (-kpS g n i) (sgS g n i) (by grind)
  exact ⟨⟨by grind,q1⟩,⟨by grind,q3⟩⟩
theorem lip1{b f:Nat→Rat}{n:Int}{d:Rat}(hg:EvB (fun i=>b i+f i) 2)(hf:EvB f 1)(hd:∀ e:Rat,0<e→∃ N,∀ i,N≤i→Ab (f i) (d+e)){e:Rat}(he:0<e) :
    ∃ N,∀ i,N≤i→Ab (sgS (fun i=>b i+2*f i) n i-sgS b n i) (2*d+e)∧Ab (kpS (fun i=>b i+2*f i) n i-kpS b n i) (2*d+e):=by
  obtain ⟨F,hF⟩:=hf
  have f2:EvB f 2:=⟨F,fun i hi=>(hF i hi).mono (by grind)⟩
  have m2:EvB (fun i=>-f i) 2:=⟨F,fun i hi=>((hF i hi).mono (by grind)).neg⟩
  obtain ⟨s1,c1⟩:=addE hg f2
  obtain ⟨s2,c2⟩:=addE hg m2
  have e1:(fun i=>b i+f i+f i)=fun i=>b i+2*f i:=funext fun i=>by grind
  have e2:(fun i=>b i+f i + -f i)=b:=funext fun i=>by grind
  rw [e1] at s1 c1
  rw [e2] at s2 c2
  have S:Near (fun i=>sinQ (fun i=>b i+2*f i) i-sinQ b i) (fun i=>2*cosQ (fun i=>b i+f i) i*sinQ f i):=(s1.sub s2).congr (fun _=>rfl) fun i=>by rw [sinQ_neg,cosQ_neg];grind
  have C:Near (fun i=>cosQ (fun i=>b i+2*f i) i-cosQ b i) (fun i=>-(2*sinQ (fun i=>b i+f i) i*sinQ f i)):=(c1.sub c2).congr (fun _=>rfl) fun i=>by rw [sinQ_neg,cosQ_neg];grind
  have A:Near (fun i=>sgS (fun i=>b i+2*f i) n i-sgS b n i) (fun i=>2*(kpS (fun i=>b i+f i) n i*sinQ f i)):=(S.lin C (cu n) (su n)).congr (fun i=>by unfold sgS;grind) fun i=>by unfold kpS;grind
  have B:Near (fun i=>kpS (fun i=>b i+2*f i) n i-kpS b n i) (fun i=>-(2*(sgS (fun i=>b i+f i) n i*sinQ f i))):=(C.lin S (cu n) (-su n)).congr (fun i=>by unfold kpS;grind) fun i=>by unfold sgS;grind
  obtain ⟨ε,ε0,ε1,ε2⟩:∃ ε:Rat,0<ε∧ε≤1/10∧10*ε≤e:=by
    rcases Rat.le_total (a:=e) (b:=1) with h | h
    · exact ⟨e*(1/10),by grind,by grind,by grind⟩
    · exact ⟨1/10,by decide +kernel,by decide +kernel,by grind⟩
  obtain ⟨N1,h1⟩:=A ε ε0
  obtain ⟨N2,h2⟩:=B ε ε0
  obtain ⟨N3,h3⟩:=turned_le1 hg n ε0
  obtain ⟨N4,h4⟩:=hd ε ε0
  refine ⟨F+N1+N2+N3+N4,fun i hi=>?_⟩
  have fa:=hF i (by omega)
  have fd:=h4 i (by omega)
  obtain ⟨g1,g2⟩:=h3 i (by omega)
  obtain ⟨a1,a2⟩:=h1 i (by omega)
  obtain ⟨b1,b2⟩:=h2 i (by omega)
  have sf1:Ab (sinQ f i) 1:=sin_le_ab fa fa i
  have sf:Ab (sinQ f i) (d+ε):=sin_le_ab fa fd i
  have key:∀ X:Rat,Ab X (1+ε)→Ab (X*sinQ f i) (d+2*ε):=fun X hX=>by
    generalize sinQ f i=s at *
    obtain ⟨x1,x2⟩:=hX
    obtain ⟨p1,p2⟩:=sf1
    obtain ⟨q1,q2⟩:=sf
    rcases (show 0≤s∨s≤0 by grind) with h | h
    · have m1:=rmR x2 h
      have m2:=rmR x1 h
      have m3:=rmL p2 (rlL ε0)
      exact ⟨by grind,by grind⟩
    · have h':0≤-s:=by grind
      have m1:=rmR x2 h'
      have m2:=rmR x1 h'
      have m3:=rmL (show -s≤1 by grind) (rlL ε0)
      exact ⟨by grind,by grind⟩
  obtain ⟨u1,u2⟩:=key _ g2
  obtain ⟨v1,v2⟩:=key _ g1
  exact ⟨⟨by grind,by grind⟩,⟨by grind,by grind⟩⟩
theorem turn_step{c c':Nat→Rat}{s:Int}(hc:EvB c' 2)(hs:-1≤s∧s≤1)(e:∀ i,c i=c' i+(s:Rat)*htS (1/2) i)(k:Int):Near (sgS c k) (sgS c' (s+k))∧Near (kpS c k) (kpS c' (s+k)):=by
  obtain ⟨a,b⟩:=right_moreS hc hs e
  obtain ⟨p,q⟩:=cu_add s k
  exact ⟨(a.lin b (cu k) (su k)).congr (fun i=>by unfold sgS;grind) fun i=>by unfold sgS kpS;rw [p,q];grind,
    (b.lin a (cu k) (-su k)).congr (fun i=>by unfold kpS;grind) fun i=>by unfold sgS kpS;rw [p,q];grind⟩
theorem turn_same{c c':Nat→Rat}{m n:Int}(hc:EvB c 2)(hc':EvB c' 2)(hj:-2≤m-n∧m-n≤2)(e:∀ i,c i=c' i+((m:Rat)-(n:Rat))*htS (1/2) i):Near (sgS c n) (sgS c' m)∧Near (kpS c n) (kpS c' m):=by
  have two:((2:Int):Rat)=2:=rfl
  have one:((1:Int):Rat)=1:=rfl
  have cast:((m-n:Int):Rat)=(m:Rat)-(n:Rat):=Rat.intCast_sub _ _
  by_cases h:-1≤m-n∧m-n≤1
  · have:=turn_step (c:=c) hc' h (fun i=>by rw [cast];exact e i) n
    rwa [Int.sub_add_cancel] at this
  · have mid:EvB (fun i=>(c i+c' i)/2) 2:=by
      obtain ⟨N,hN⟩:=hc
      obtain ⟨M,hM⟩:=hc'
      refine ⟨N+M,fun i hi=>?_⟩
      obtain ⟨a,b⟩:=hN i (by omega)
      obtain ⟨a',b'⟩:=hM i (by omega)
      exact ⟨by grind,by grind⟩
    obtain ⟨s,hs,e2⟩:∃ s:Int,(s=1∨s = -1)∧m=s+(s+n):=by
      rcases (show m-n=2∨m-n = -2 by omega) with q | q
      · exact ⟨1,.inl rfl,by omega⟩
      · exact ⟨-1,.inr rfl,by omega⟩
    have es:(m:Rat)-(n:Rat)=2*(s:Rat):=by rw [←cast,show m-n=2*s by omega,rcM,two]
    have hs':-1≤s∧s≤1:=by omega
    obtain ⟨a1,b1⟩:=turn_step (c:=c) mid hs' (fun i=>by have:=e i;rw [es] at this;grind) n
    obtain ⟨a2,b2⟩:=turn_step (c:=fun i=>(c i+c' i)/2) hc' hs' (fun i=>by have:=e i;rw [es] at this;grind) (s+n)
    rw [←e2] at a2 b2
    exact ⟨a1.trans a2,b1.trans b2⟩
theorem lip{a b:Nat→Rat}{m n:Int}{off:Rat}(ha:EvB a (19/20))(hb:EvB b (19/20))(o0:0≤off)
    (hD:∀ e:Rat,0<e→∃ N,∀ i,N≤i→Ab (a i+(m:Rat)*htS (1/2) i-(b i+(n:Rat)*htS (1/2) i)) (off+e)) {e:Rat} (he:0<e) :
    ∃ N,∀ i,N≤i→Ab (sgS a m i-sgS b n i) (off+e)∧Ab (kpS a m i-kpS b n i) (off+e):=by
  have a2:EvB a 2:=by obtain ⟨N,h⟩:=ha;exact ⟨N,fun i hi=>(h i hi).mono (by decide +kernel)⟩
  have b2:EvB b 2:=by obtain ⟨N,h⟩:=hb;exact ⟨N,fun i hi=>(h i hi).mono (by decide +kernel)⟩
  rcases (show 2≤off∨off≤2 by grind) with h2 | h2
  · obtain ⟨N,hN⟩:=turned_le1 a2 m (e:=e*(1/2)) (by grind)
    obtain ⟨M,hM⟩:=turned_le1 b2 n (e:=e*(1/2)) (by grind)
    refine ⟨N+M,fun i hi=>?_⟩
    obtain ⟨x,y⟩:=hN i (by omega)
    obtain ⟨x',y'⟩:=hM i (by omega)
    exact ⟨(x.sub x').mono (by grind),(y.sub y').mono (by grind)⟩
  · obtain ⟨f,hf⟩:∃ f:Nat→Rat,∀ i,f i=1/4*(a i+(m:Rat)*htS (1/2) i-(b i+(n:Rat)*htS (1/2) i)):=⟨_,fun _=>rfl⟩
    have fd:∀ ε:Rat,0<ε→∃ N,∀ i,N≤i→Ab (f i) (1/4*off+ε):=fun ε ε0=>by
      obtain ⟨N,hN⟩:=hD ε ε0
      refine ⟨N,fun i hi=>?_⟩
      obtain ⟨x,y⟩:=hN i hi
      rw [hf]
      exact ⟨by grind,by grind⟩
    obtain ⟨N0,h0⟩:=fd (1/100) (by decide +kernel)
    obtain ⟨Na,hA⟩:=ha
    obtain ⟨Nb,hB⟩:=hb
    have f1:EvB f 1:=⟨N0,fun i hi=>(h0 i hi).mono (by grind)⟩
    have gb:EvB (fun i=>b i+f i) 2:=⟨N0+Nb,fun i hi=>((hB i (by omega)).add (h0 i (by omega))).mono (by grind)⟩
    have ga:EvB (fun i=>(a i-2*f i)+f i) 2:=⟨N0+Na,fun i hi=>by
      obtain ⟨x,y⟩:=hA i (by omega)
      obtain ⟨x',y'⟩:=h0 i (by omega)
      exact ⟨by grind,by grind⟩⟩
    have c2:EvB (fun i=>b i+2*f i) 2:=⟨N0+Nb,fun i hi=>by
      obtain ⟨x,y⟩:=hB i (by omega)
      obtain ⟨x',y'⟩:=h0 i (by omega)
      exact ⟨by grind,by grind⟩⟩
    have c2':EvB (fun i=>a i-2*f i) 2:=⟨N0+Na,fun i hi=>by
      obtain ⟨x,y⟩:=hA i (by omega)
      obtain ⟨x',y'⟩:=h0 i (by omega)
      exact ⟨by grind,by grind⟩⟩
    have same:∀ i,b i+2*f i=(a i-2*f i)+((m:Rat)-(n:Rat))*htS (1/2) i:=fun i=>by rw [hf];grind
    have j2:-2≤m-n∧m-n≤2:=by
      have hp:=halfP_hf (w:=8) (by decide) (by decide)
      obtain ⟨K,hK⟩:=half_enc hp (1/100) (by decide +kernel)
      obtain ⟨i,i1,i2,i3,i4⟩:∃ i,N0≤i∧Na≤i∧Nb≤i∧K≤i:=⟨N0+Na+Nb+K,by omega,by omega,by omega,by omega⟩
      have l:=hp.lo
      have k1:(halfP 8).lo.rv-1/100≤1/2*piS i:=(hK i i4).1
      have s:=same i
      have ht:htS (1/2) i=1/2*piS i:=rfl
      rw [ht] at s
      obtain ⟨x1,y1⟩:=hA i i2
      obtain ⟨x2,y2⟩:=hB i i3
      obtain ⟨x3,y3⟩:=h0 i i1
      have cast:((m-n:Int):Rat)=(m:Rat)-(n:Rat):=Rat.intCast_sub _ _
      rw [←cast] at s
      generalize m-n=j at *
      generalize 1/2*piS i=q at *
      have q1:149/100≤q:=by grind
      have three:((3:Int):Rat)=3:=rfl
      have mthree:((-3:Int):Rat) = -3:=rfl
      constructor
      · refine Classical.byContradiction fun k=>?_
        have t:(j:Rat)≤((-3:Int):Rat):=Rat.intCast_le_intCast.2 (by omega)
        rw [mthree] at t
        have m:=rmR t (show 0≤q by grind)
        grind
      · refine Classical.byContradiction fun k=>?_
        have t:((3:Int):Rat)≤(j:Rat):=Rat.intCast_le_intCast.2 (by omega)
        rw [three] at t
        have m:=rmR t (show 0≤q by grind)
        grind
    obtain ⟨S,C⟩:=turn_same c2 c2' j2 same
    obtain ⟨N1,h1⟩:=lip1 (n:=n) gb f1 fd (e:=e*(1/4)) (by grind)
    obtain ⟨N2,h2⟩:=lip1 (n:=m) ga f1 fd (e:=e*(1/4)) (by grind)
    have ea:(fun i=>a i-2*f i+2*f i)=a:=funext fun i=>by grind
    rw [ea] at h2
    obtain ⟨N3,h3⟩:=S (e*(1/4)) (by grind)
    obtain ⟨N4,h4⟩:=C (e*(1/4)) (by grind)
    refine ⟨N1+N2+N3+N4,fun i hi=>?_⟩
    obtain ⟨⟨p1,p2⟩,⟨p3,p4⟩⟩:=h1 i (by omega)
    obtain ⟨⟨q1,q2⟩,⟨q3,q4⟩⟩:=h2 i (by omega)
    obtain ⟨r1,r2⟩:=h3 i (by omega)
    obtain ⟨t1,t2⟩:=h4 i (by omega)
    exact ⟨⟨by grind,by grind⟩,⟨by grind,by grind⟩⟩
theorem tur_num{x:Dx}(hx:0≤x.m)(h:(turR x).2.2=0):∃ N:Int,NearI N (2*x.rv)∧turR x=(N % 4,(turR x).2.1,0)∧(turR x).2.1.rv=x.rv-(N:Rat)/2∧(turR x).2.1.fitsB=true:=by
  obtain ⟨_,_,h3,h4⟩:=tur_ok h
  have n:=turN_near (y:=oneD x) oneD_p
  rw [rv_one hx] at n
  refine ⟨wholeS (turN (oneD x)),n,?_,?_,by rw [h4];exact h3⟩
  · rw [h4];rfl
  · rw [h4]
    show (turX (oneD x)).rv=_
    rw [turX_rv oneD_p,rv_one hx];grind
theorem both_eq{x:Dx}{p:Int}(p0:8≤p)(p1:p≤2048){N:Int}{R:Dx}(e:turR x=(N,R,0)){S C:Vx}(en:nearT R p=((S,C),0)):bothTp x p=((trimV (turnP N (S,C)).1 (p+8),trimV (turnP N (S,C)).2 (p+8)),0):=by
  have eo:ofTp x p=(turnP N (S,C),0):=by rw [ofTp,e,if_pos rfl,en,if_pos rfl]
  rw [bothTp,if_pos ⟨p0,p1⟩,eo,if_pos rfl]
theorem both_near{R:Dx}(lf:Lft R){p:Int}(p0:8≤p)(p1:p≤2048):(∃ S C t,nearT R p=((S,C),0)∧Half (p2 (-19-p)) S (sinS t)∧Half (p2 (-19-p)) C (cosS t))∨(nearT R p=((zeroIv,zeroIv),3)∧farB R=true):=by
  rcases nearT_ok lf.f.p lf.l lf.h (p:=p) p0 (by omega) (p':=8) (by decide) (by decide) with ⟨S,C,t,en,two,_⟩|⟨en,r0,rs⟩
  · exact .inl ⟨S,C,t,en,two.s,two.c⟩
  · exact .inr ⟨en,far_of lf.f r0 rs⟩
theorem both_no18{x:Dx}{p:Int}(p0:8≤p)(p1:p≤2048)(h:(bothTp x p).2=0):(turR x).2.2=0∧(nearT (turR x).2.1 p).2=0:=by
  rw [bothTp,if_pos ⟨p0,p1⟩] at h
  split at h
  · rename_i h1
    unfold ofTp at h1
    split at h1
    · rename_i h2
      split at h1
      · rename_i h3;exact ⟨h2,h3⟩
      · rename_i h3;exact absurd h1 h3
    · rename_i h2;exact absurd h1 h2
  · rename_i h1;exact absurd h h1
theorem both_enc{x R:Dx}{N:Int}(lf:Lft R){p:Int}(p0:8≤p)(p1:p≤2048)(e:turR x=(N % 4,R,0))(h:(bothTp x p).2=0) :
    (bothTp x p).1.1.P∧(bothTp x p).1.2.P∧Enc (sgQ R.rv N) (bothTp x p).1.1.lo.rv (bothTp x p).1.1.hi.rv∧Enc (kpQ R.rv N) (bothTp x p).1.2.lo.rv (bothTp x p).1.2.hi.rv:=by
  obtain ⟨_,h2⟩:=both_no18 p0 p1 h
  rw [e] at h2
  rcases both_near lf p0 p1 with ⟨S,C,t,en,hs,hc⟩|⟨en,_⟩
  · rw [both_eq p0 p1 e en]
    obtain ⟨a,b⟩:=enc_sg lf.f.p lf.l lf.h p0 (by omega) hs.p hc.p en N
    obtain ⟨xs,xc⟩:=turn_half hs hc (N % 4)
    exact ⟨trimV_p _ _,trimV_p _ _,trim_enc xs.p (by omega) a,trim_enc xc.p (by omega) b⟩
  · exfalso;rw [en] at h2;cases h2
def nearbyB(v u:Vx)(d:Dx):Bool:=touchB ⟨lessD v.lo d,plusD v.hi d⟩ u
def sNb:List (FuncId×Spec):=[(65,gTouch),(24,fLess),(62,fPlus)]
theorem lNb_vc(v u:Vx)(d:Dx)(Q:Tv→Prop):execF ⟨tysT,sNb⟩ (fun _=>none) 0 Tryz.f26 [.agg (ivL false v),.agg (ivL false u),.agg (dyL false d)] Q=((Dx.Sm 34359738368 v.lo∧Dx.Sm 34359738368 d)∧(Dx.Sm 68719476736 v.hi∧Dx.Sm 68719476736 d)∧(Vx.Sm 34359738368 (Vx.mk (lessD v.lo d) (plusD v.hi d))∧Vx.Sm 34359738368 u)∧true=true∧Q (bT (touchB (Vx.mk (lessD v.lo d) (plusD v.hi d)) u))):=by kernel_rfl
def wNb(g:Vx→Vx→Dx→Bool):Spec:=specK [.v,.v,.d] fun (v:Vx) (u:Vx) (d:Dx)=>(some (v.Sm 131072∧u.Sm 131072∧d.Sm 131072),bT (g v u d))
def sHt(co:Int→Vx×Int)(sd:Vx→Int→Vx×Int)(bp bt:Dx→Int→(Vx×Vx)×Int)(ss:(Vx×Vx)×Int→(Vx×Vx)×Int)(fZ:Dx→Bool)(fT:Dx→Int)(fP:Dx→Vx)(fX:Vx→Vx→Int→Vx)(fL:Dx→Dx→Dx)(nb:Vx→Vx→Dx→Bool):List (FuncId×Spec):=[(5,wTrue),(18,specK [.i .u8,.i .i64] fun (k:Int) (p:Int)=>(some (k=1),reT (co p))),(11,specK [.v,.i .i64] fun (v:Vx) (w:Int)=>(none,reT (sd v w))),(14,specK [.v,.v,.i .i64] fun (v:Vx) (u:Vx) (w:Int)=>(none,reT2 (ss ((v,u),w)))),(19,specK [.d,.i .i64] fun (x:Dx) (p:Int)=>(none,reT2 (bp x p))),(25,specK [.d,.i .i64] fun (x:Dx) (p:Int)=>(none,reT2 (bt x p))),(20,specK [.d] fun (d:Dx)=>(none,bT (fZ d))),(21,specK [.d] fun (d:Dx)=>(some (eB 2305843009213693952 d),iT (fT d))),(23,specK [.d] fun (d:Dx)=>(some (eB 4611686018427387904 d),vT (fP d))),(22,xVVIv fX),(24,specK [.d,.d] fun (a:Dx) (b:Dx)=>(some (a.Sm 34359738368∧b.Sm 34359738368),dT (fL a b))),(26,wNb nb)]
theorem lHt_vc(x:Dx)(p:Int)(co:Int→Vx×Int)(sd:Vx→Int→Vx×Int)(bp bt:Dx→Int→(Vx×Vx)×Int)(ss:(Vx×Vx)×Int→(Vx×Vx)×Int)(fZ:Dx→Bool)(fT:Dx→Int)(fP:Dx→Vx)(fX:Vx→Vx→Int→Vx)(fL:Dx→Dx→Dx)(nb:Vx→Vx→Dx→Bool)(Q:Tv→Prop):execF ⟨tysT,sHt co sd bp bt ss fZ fT fP fX fL nb⟩ (fun _=>none) 0 Tryz.f4 [.agg (dyL false x),.one (.int .i64 p)] Q=((1:Int)=(1:Int)∧br (neI (sd (co 200).fst (co 200).snd).snd 0) (Q (bT (eqI (sd (co 200).fst (co 200).snd).snd 0))) (br (neI (ss (bp x p)).snd 0) (Q (bT (eqI (sd (co 200).fst (co 200).snd).snd 0))) (br (fZ x) (Q (bT (eqI (sd (co 200).fst (co 200).snd).snd 0))) (eB 2305843009213693952 x∧br (ltI 900 (fT x)) (Q (bT (eqI (sd (co 200).fst (co 200).snd).snd 0))) (eB 2305843009213693952 x∧br (ltI (fT x) (-900)) (Q (bT (eqI (sd (co 200).fst (co 200).snd).snd 0))) (eB 4611686018427387904 x∧(Vx.Sm 268435456 (sd (co 200).fst (co 200).snd).fst∧Vx.Sm 268435456 (fP x)∧(0:Int)≤190∧(190:Int)≤1099511627776)∧true=true∧(Dx.Sm 34359738368 (fX (sd (co 200).fst (co 200).snd).fst (fP x) 190).hi∧Dx.Sm 34359738368 (fX (sd (co 200).fst (co 200).snd).fst (fP x) 190).lo)∧br (neI (ss (bt (fX (sd (co 200).fst (co 200).snd).fst (fP x) 190).lo p)).snd 0) (Q (bT (eqI (ss (bt (fX (sd (co 200).fst (co 200).snd).fst (fP x) 190).lo p)).snd 6))) ((Vx.Sm 131072 (ss (bp x p)).fst.fst∧Vx.Sm 131072 (ss (bt (fX (sd (co 200).fst (co 200).snd).fst (fP x) 190).lo p)).fst.fst∧Dx.Sm 131072 (fL (fX (sd (co 200).fst (co 200).snd).fst (fP x) 190).hi (fX (sd (co 200).fst (co 200).snd).fst (fP x) 190).lo))∧br (nb (ss (bp x p)).fst.fst (ss (bt (fX (sd (co 200).fst (co 200).snd).fst (fP x) 190).lo p)).fst.fst (fL (fX (sd (co 200).fst (co 200).snd).fst (fP x) 190).hi (fX (sd (co 200).fst (co 200).snd).fst (fP x) 190).lo)) ((Vx.Sm 131072 (ss (bp x p)).fst.snd∧Vx.Sm 131072 (ss (bt (fX (sd (co 200).fst (co 200).snd).fst (fP x) 190).lo p)).fst.snd∧Dx.Sm 131072 (fL (fX (sd (co 200).fst (co 200).snd).fst (fP x) 190).hi (fX (sd (co 200).fst (co 200).snd).fst (fP x) 190).lo))∧Q (bT (nb (ss (bp x p)).fst.snd (ss (bt (fX (sd (co 200).fst (co 200).snd).fst (fP x) 190).lo p)).fst.snd (fL (fX (sd (co 200).fst (co 200).snd).fst (fP x) 190).hi (fX (sd (co 200).fst (co 200).snd).fst (fP x) 190).lo)))) (Q (bT false))))))))):=by kernel_rfl
theorem rp_bd{d:Dx}(h:OneF d){p A B:Int}(hr:Rp p d.rv)(hz:d.m≠0)(hA:p2 A≤(d.m:Rat)*p2 d.e)(hB:(d.m:Rat)*p2 d.e≤p2 B):A-p<d.e∧d.e+(blen d.m:Int)≤B+1:=by
  have m0:=h.p
  have hodd:=h.odd hz
  obtain ⟨s,e,hs,s1,s2⟩:=hr
  have amt:(d.m:Rat)*p2 d.e=((s.natAbs:Int):Rat)*p2 e:=by
    obtain ⟨a1,a2⟩:=rv_amt m0
    rcases (show 0≤d.rv∨d.rv≤0 by grind) with c | c
    · rw [←a1 c,hs]
      have:0≤s:=by
        have:=p2_pos e
        rcases (show s<0∨0≤s by omega) with k | k
        · have k2:(s:Rat)<0:=cast_lt.2 k
          have:=Rat.mul_pos (show (0:Rat) < -(s:Rat) by grind) this
          grind
        · exact k
      rw [show (s.natAbs:Int)=s by omega]
    · rw [←a2 c,hs]
      have:s≤0:=by
        have:=p2_pos e
        rcases (show 0<s∨s≤0 by omega) with k | k
        · have k2:(0:Rat)<(s:Rat):=cast_lt.2 k
          have:=Rat.mul_pos k2 this
          grind
        · exact k
      rw [show (s.natAbs:Int) = -s by omega,Rat.intCast_neg];grind
  have hsa:((s.natAbs:Int):Rat)<p2 p:=by
    rcases (show (s.natAbs:Int)=s∨(s.natAbs:Int) = -s by omega) with c | c
    · rw [c];exact s1
    · rw [c,Rat.intCast_neg];grind
  have hm:d.m≤(s.natAbs:Int):=by
    rcases (show d.e<e∨e≤d.e by omega) with k | k
    · exfalso
      have e1:(d.m:Rat)=((s.natAbs*2^(e-d.e).toNat:Int):Rat):=by
        rw [rcM,←p2_toNat (show 0≤e-d.e by omega)]
        have:=p2_sub e d.e
        have q:=p2_pos d.e
        have h3:(d.m:Rat)*p2 d.e=((s.natAbs:Int):Rat)*p2 (e-d.e)*p2 d.e:=by rw [Rat.mul_assoc,this];exact amt
        have l1:=(mul_p2_le (a:=(d.m:Rat)) (b:=((s.natAbs:Int):Rat)*p2 (e-d.e)) d.e).1 (by rw [h3];exact Rat.le_refl)
        have l2:=(mul_p2_le (b:=(d.m:Rat)) (a:=((s.natAbs:Int):Rat)*p2 (e-d.e)) d.e).1 (by rw [h3];exact Rat.le_refl)
        exact Rat.le_antisymm l1 l2
      have e2:=Rat.intCast_inj.1 e1
      obtain ⟨j,hj⟩:∃ j,(e-d.e).toNat=j+1:=⟨(e-d.e).toNat-1,by omega⟩
      rw [hj,Int.pow_succ,←Int.mul_assoc] at e2
      omega
    · have q:p2 e≤p2 d.e:=p2_le (by omega)
      have h3:=rmL q (show (0:Rat)≤(d.m:Rat) from cast_le.2 m0)
      rw [amt] at h3
      exact cast_le.1 ((mul_p2_le e).1 h3)
  have hmp:(d.m:Rat)<p2 p:=by have:=cast_le.2 hm;grind
  have hp0:0<p:=by
    have:p2 0<p2 p:=by rw [p2_zero];have:(1:Rat)≤(d.m:Rat):=cast_le.2 (show (1:Int)≤d.m by omega);grind
    exact p2_lt_iff.1 this
  have hb:blen d.m≤p.toNat:=blen_le (by rw [p2_toNat (by omega)] at hmp;exact cast_lt.1 hmp)
  have a1:=amt_ge (m:=d.m) (e:=d.e) (by omega)
  have a2:=amt_lt (m:=d.m) (e:=d.e)
  have e1:A<d.e+(blen d.m:Int):=p2_lt_iff.1 (by grind)
  have e2:d.e+(blen d.m:Int)-1≤B:=by
    rcases (show B<(d.e+(blen d.m:Int)-1)∨(d.e+(blen d.m:Int)-1)≤B by omega) with k | k
    · exfalso
      have:=p2_lt k
      grind
    · exact k
  omega
theorem rest_low2{x:Dx}(hx:0≤x.m)(hb:x.Bd 1100 1024)(hi:inX x){w:Int}(w0:8≤w)(w1:w≤8192):(restW (halfP w) x w).Bd 8258 4096:=by
  have hf:=halfP_hf (w:=w) w0 (by omega)
  have cb:=halfP_bd (w:=w) w0 (by omega)
  obtain ⟨_,_,_,nb,_,_⟩:=half_sizes hf w0 (by omega) cb hx hi
  have np:0≤(nW (halfP w) x w).m:=nearD_p
  have tb:=Vx.Bd.times (p:=w+64) (pointV_p (nW (halfP w) x w)) hf.p (by omega) (nb.point np) cb
  exact (Vx.Bd.less (p:=w) (pointV_p x) (trimV_p (prodV (pointV (nW (halfP w) x w)) (halfP w)) (w+64)) (by omega) ((hb.point hx).mono (show (1100:Int)≤8258 by omega) (show (1024:Int)≤4094 by omega)) (tb.mono (by omega) (by omega))).mono (by omega) (by omega)
theorem quar_amt2{x:Dx}(hx:0≤x.m)(fx:OneF x)(hb:x.Bd 1100 1024)(hi:inX x)(h0:x.rv≠0){p:Int}(h:(quarR x p).2.2=0):p2 (-8258)≤(quarR x p).2.1.lo.rv∨p2 (-8258)≤-(quarR x p).2.1.hi.rv:=by
  obtain ⟨n,w,w0,w1,e⟩:=quar_off hx h0 h
  rw [e,oneD_id fx] at n ⊢
  have b:=rest_low2 hx hb hi w0 w1
  have rp:(restW (halfP w) x w).P:=⟨cutD_p,cutD_p⟩
  rcases n with n | n
  · left
    have:=bd_low rp.1 b.1 (by have:=n.1;grind)
    rw [←(rv_amt rp.1).1 (rlL n.1)] at this;exact this
  · right
    have:=bd_low rp.2 b.2 (by have:=n.1;grind)
    rw [←(rv_amt rp.2).2 (by have:=n.1;grind)] at this;exact this
theorem trig_vals{y:Dx}(fy:OneF y)(hb:y.Bd 1100 1024)(h0:y.rv≠0){p:Int}(p0:8≤p)(p1:p≤2048) :
    (bothTq y p).2=6∨∃ T D n,bothTq y p=((T,D),0)∧T.P∧D.P∧EvB (rhS y.rv n) (19/20)∧Enc (sgS (rhS y.rv n) n) T.lo.rv T.hi.rv∧Enc (kpS (rhS y.rv n) n) D.lo.rv D.hi.rv:=by
  have hy:=fy.p
  have cf:y.fitsB=true:=fits_bd2 fy (hb.mono (by omega) (by omega))
  have ct:topD (oneD y)<1024:=by
    have h:=hb.hi
    rw [oneD_id fy]
    show y.e+blen y.m-1<1024
    omega
  have hi:=inX_of hy cf ct
  have c:condQ y (p+32):=⟨cf,by omega,by omega⟩
  have ck:chkD y=0:=by rw [chkD,if_pos cf]
  have code:(quarR y (p+32)).2.2=0∨(quarR y (p+32)).2.2=6:=by
    rcases quar_cases y (p+32) with ⟨k,_⟩|⟨_,_,q⟩|⟨_,_,k,_⟩|⟨_,_,_,q⟩|⟨_,_,_,w,q⟩
    · exact absurd c k
    · rw [q];exact .inl rfl
    · omega
    · rw [q];exact .inr rfl
    · rw [q.eq];exact .inl rfl
  rcases code with h | h
  · right
    obtain ⟨n,kn,Q⟩:=quar_num hy h
    obtain ⟨nn,_⟩:=quar_off hy h0 h
    have am:=quar_amt2 hy fy hb hi h0 h
    obtain ⟨s1,s2⟩:=small_of Q.enc.self Q.lo Q.hi
    have f:=right_fits Q.r
    have F1:=fault_of (p:=p+24) Q.q.1 f.1 s1 (by omega) (by omega)
    have F2:=fault_of (p:=p+24) Q.q.2 f.2.1 s2 (by omega) (by omega)
    have d0:=rlL (p2_pos (-(p+32)))
    have dd:p2 (-(p+32))≤p2 (-(p+24)):=p2_le (by omega)
    obtain ⟨r,_⟩:=pair_vm Q.q F1 F2 nn am (by decide) d0 dd
    rcases qnum_pair Q p0 (by omega) with ⟨_,k⟩|⟨S,C,e,PQ,K⟩
    · rw [r] at k;cases k
    · have b:bothTr y p=(turnP (n % 4) (S,C),0):=by rw [bothTr,if_pos h,e,if_pos rfl,kn]
      have bq:bothTq y p=((trimV (turnP (n % 4) (S,C)).1 (p+8),trimV (turnP (n % 4) (S,C)).2 (p+8)),0):=by rw [bothTq,if_pos ⟨ck,p0,p1⟩,b,if_pos rfl]
      obtain ⟨c1,d1⟩:=enc_turned K.sp K.cp PQ.s PQ.c (n % 4)
      obtain ⟨u,v⟩:=turS_uv n (sinQ (rhS y.rv n)) (cosQ (rhS y.rv n))
      rw [u] at c1
      rw [v] at d1
      have hs:Half (p2 (-19-p)) S (sinQ (rhS y.rv n)):=⟨K.sp,K.sf,K.sr,K.st,K.s32,PQ.s⟩
      have k0:=K.c0
      have k1:=K.c1
      have hc:Half (p2 (-19-p)) C (cosQ (rhS y.rv n)):=⟨K.cp,K.cf,K.cr,.inr (.inl K.cn),⟨by grind,by grind⟩,PQ.c⟩
      obtain ⟨xs,xc⟩:=turn_half hs hc (n % 4)
      obtain ⟨N,hN⟩:=Q.enc (1/20) (by decide +kernel)
      have l1:=Q.lo
      have l2:=Q.hi
      exact ⟨_,_,n,bq,trimV_p _ _,trimV_p _ _,⟨N,fun i hi=>by have:=hN i hi;exact ⟨by grind,by grind⟩⟩,trim_enc xs.p (by omega) c1,trim_enc xc.p (by omega) d1⟩
  · left
    have b:(bothTr y p).2=6:=by rw [bothTr,if_neg (by omega),h]
    rw [bothTq,if_pos ⟨ck,p0,p1⟩,if_neg (by omega),b]
end Go.Proofs.YtfdcdokfneicjaaGreatDoor
