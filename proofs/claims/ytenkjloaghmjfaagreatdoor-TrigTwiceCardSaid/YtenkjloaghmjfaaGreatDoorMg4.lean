/-
Dyadic numbers: how low their last bit lies, how high their first. Plain.
Package reduce.
Package reduce: Turns, Scale, Split.
Package ulpref09: pi; ulpref14: pi.
Package ulpref14.
When right angles are told apart: plain.
The reckoning again, so that the kernel can do it: the same functions by recursion on a number of rounds.
Package ulplaw14.
Package ulplaw13: the words.
Answers of sines and cosines against the document's. Plain.
Package ulplaw13: the answers that the document gives; SincoreEncloses.
Sine and cosine: the circle, the mirror, bounds. Plain.
Package ulplaw14: ReduceOdd.
Package ulplaw14: ReduceBack, ReduceNear.
Package ulplaw14: ReduceNear.
Package ulplaw14: ReduceAngles.
ulpref04.Copy, by hand: a copy of a number's words.
Package ulplaw14: ReduceQuarter.
Package ulplaw14: ReduceQuarter's word.
Package ulplaw13: circle, mirror, bounds: the laws' words.
The sine rises, the cosine falls with the amount: partial sum by partial sum. Plain.
Sines and cosines of all numbers of an interval: near the document's, and right. Plain.
Package ulplaw13: near; SincoreBoth.
Sines and cosines over a narrow interval: how narrow. Plain.
Sines and cosines of all numbers of a narrow interval: narrow. Plain.
Sines and cosines of all numbers of an interval, enclosed; the turned pair; what is asked of an answer. Plain.
Of half a turned pair: what becomes of it, cut to the bits that are asked; quotients. Plain.
Quotients of narrow intervals; how great the sines of what is not too near 0 are. Plain.
The angle of so many half turns. Plain.
Sine and cosine of so many half turns, turned: they meet the document's. Plain.
Tangents: what the program's quotient is, and that it meets the document's. Plain.
The document's sine and cosine of half turns keep off 0; quotients of 0. Plain.
What TrigpiBoth asks. Plain.
What TrigpiEncloses asks, behind the reading of a binary64 number. Plain.
What is left of a binary64 number behind half turns has room, and is not too near 0. Plain.
The turned pair: on the circle, mirrored, half a turn on. Plain.
What the program and the document leave of one number behind right angles: as many, and a shared rational. Plain.
Sine and cosine of what is left behind right angles. Plain.
Circle, mirror, half a turn: what ulplaw18 asks without the document. Plain.
The tangent on the other side of 0. Plain.
What is left behind right angles of a number that is not 0: it is not 0, and how great it is. Plain.
How sine, cosine and inverse tangent change from number to number; the tangent of the inverse tangent. Plain.
Sequences of angles: sums of them, the sine and the cosine of a quarter and of half of pi. Plain.
Sequences of angles that lie in an interval in the end: what holds of all numbers of the interval holds of them; the pair of half turns. Plain.
Sine and cosine of a sum of so many half turns, turned. Plain.
Binary64 numbers, taken apart: dyad.From, ulpref04.From, bits.Neg.
What the program leaves behind right angles encloses a sequence of angles; its pair of a binary64; what TrigEncloses asks. Plain.
Package trigpi: the turned pairs.
Package trigpi: of, Both, Enclose.
Package ulpref18.
Package ulplaw18: the answers that the document gives; TrigpiEncloses, TrigpiBoth.
Package trig.
The program's and the document's pair of a binary64; what TrigEncloses asks. Plain.
Packages trig, ulpref17: Both, Enclose; ulplaw17: free, like, sound.
Package ulpref17; ulplaw17: free, like; TrigEncloses behind lives.
-/
import Derived.Test.YtenkjloaghmjfaaGreatDoorMg3
import Derived.Test.YtenkjloaghmjfaaGreatDoorMg2
import Derived.Test.YtenkjloaghmjfaaGreatDoorMg1
namespace Go.Proofs.YtenkjloaghmjfaaGreatDoor
open Go.RowKit
structure Dx.Bd (L T:Int) (d:Dx):Prop where
  l0:0≤L
  t0:0≤T
  lo:-L≤d.e
  hi:d.e+blen d.m≤T
theorem Dx.Bd.mono{L T L' T':Int}{d:Dx}(h:d.Bd L T)(hl:L≤L')(ht:T≤T'):d.Bd L' T':=by
  obtain ⟨a,b,c,e⟩:=h
  exact ⟨by omega,by omega,by omega,by omega⟩
theorem Dx.Bd.sm{L T:Int}{d:Dx}(h:d.Bd L T){N:Nat}(hn:L+T≤N):d.Sm N:=by
  obtain ⟨a,b,c,e⟩:=h
  exact ⟨by omega,by omega,by omega⟩
theorem mkD_bd{neg:Bool}{m e L T:Int}(h:0≤m)(l0:0≤L)(t0:0≤T)(hl:-L≤e)(ht:e+blen m≤T):(mkD neg m e).Bd L T:=by
  by_cases hz:m=0
  · subst hz;rw [mkD_zero]
    exact ⟨l0,t0,by show -L≤0;omega,by show (0:Int)+blen (val [])≤T;rw [show blen (val [])=0 from rfl];omega⟩
  · have hp:0<m:=by omega
    have hm:=mkD_m (neg:=neg) (e:=e) h
    have he:(mkD neg m e).e=e+tz m:=by unfold mkD;rw [if_neg hz]
    obtain ⟨q,hq,hq2⟩:=tz_spec hp
    have p:=two_pow_pos (tz m)
    generalize tz m=t at *
    have hdiv:m/2^t=2*q+1:=by rw [hq2,Int.mul_ediv_cancel_left _ (by omega)]
    have hb:blen m=blen (2*q+1)+t:=by
      rw [hq2,Int.mul_comm]
      exact blen_mul_pow (by omega) _
    refine ⟨l0,t0,by rw [he];omega,?_⟩
    rw [he,hm,hdiv];omega
theorem mkS_bd{s e L T:Int}(l0:0≤L)(t0:0≤T)(hl:-L≤e)(ht:e+blen (s.natAbs:Int)≤T):(mkS s e).Bd L T:=mkD_bd (by omega) l0 t0 hl ht
theorem Dx.Bd.one{L T:Int}{d:Dx}(hd:0≤d.m)(h:d.Bd L T):(oneD d).Bd L T:=mkD_bd hd h.l0 h.t0 h.lo h.hi
theorem Dx.Bd.neg{L T:Int}{d:Dx}(hd:0≤d.m)(h:d.Bd L T):(negD d).Bd L T:=mkD_bd hd h.l0 h.t0 h.lo h.hi
theorem Dx.Bd.shift{L T n L' T':Int}{d:Dx}(hd:0≤d.m)(h:d.Bd L T)(l0:0≤L')(t0:0≤T')(hl:L-n≤L')(ht:T+n≤T'):(shiftD d n).Bd L' T' :=
  mkD_bd hd l0 t0 (by have:=h.lo;omega) (by have:=h.hi;omega)
theorem Dx.Bd.times{L T L' T':Int}{a b:Dx}(ha:0≤a.m)(hb:0≤b.m)(h:a.Bd L T)(k:b.Bd L' T'):(timesD a b).Bd (L+L') (T+T'):=by
  have:=blen_mul ha hb
  obtain ⟨a1,a2,a3,a4⟩:=h
  obtain ⟨b1,b2,b3,b4⟩:=k
  exact mkD_bd (Int.mul_nonneg ha hb) (by omega) (by omega) (by omega) (by omega)
theorem blen_scl{d:Dx}(hd:0≤d.m)(k:Nat):(blen ((d.sm*2^k).natAbs:Int):Int)≤blen d.m+k:=by
  rw [sm_abs hd]
  by_cases h:d.m=0
  · rw [h,Int.zero_mul];show ((0:Nat):Int)≤_;omega
  · rw [blen_mul_pow (by omega)];omega
theorem Dx.Bd.plusX{L T:Int}{a b:Dx}(ha:0≤a.m)(hb:0≤b.m)(h:a.Bd L T)(k:b.Bd L T):(plusX a b).Bd L (T+1):=by
  obtain ⟨l0,t0,a1,a2⟩:=h
  obtain ⟨_,_,b1,b2⟩:=k
  unfold Go.Proofs.YtenkjloaghmjfaaGreatDoor.plusX
  split
  · exact ⟨l0,by omega,b1,by omega⟩
  · split
    · exact ⟨l0,by omega,a1,by omega⟩
    · have c1:=blen_scl ha (a.e-min a.e b.e).toNat
      have c2:=blen_scl hb (b.e-min a.e b.e).toNat
      obtain ⟨N,hN⟩:∃ N:Nat,(N:Int)=max (T-min a.e b.e) 0:=⟨(max (T-min a.e b.e) 0).toNat,by omega⟩
      have d:=blen_natAbs_add (X:=a.sm*2^(a.e-min a.e b.e).toNat) (Y:=b.sm*2^(b.e-min a.e b.e).toNat) (N:=N) (by omega) (by omega)
      refine mkS_bd l0 (by omega) (by omega) ?_
      omega
theorem Dx.Bd.plus{L T:Int}{a b:Dx}(ha:0≤a.m)(hb:0≤b.m)(h:a.Bd L T)(k:b.Bd L T):(plusD a b).Bd L (T+1):=Dx.Bd.plusX oneD_p oneD_p (h.one ha) (k.one hb)
theorem Dx.Bd.cut{L T:Int}{d:Dx}{p:Int}{up:Bool}(hd:0≤d.m)(hp:0≤p)(h:d.Bd L T):(cutD d p up).Bd L (T+1):=by
  have m0:=oneD_p (d:=d)
  obtain ⟨l0,t0,a1,a2⟩:=h.one hd
  unfold cutD cutX
  split
  · exact ⟨l0,by omega,a1,by omega⟩
  · rename_i hn
    have p0:=two_pow_pos ((blen (oneD d).m:Int)-p).toNat
    have q0:0≤(oneD d).m/2^((blen (oneD d).m:Int)-p).toNat:=Int.ediv_nonneg m0 (by omega)
    have hb:(blen ((oneD d).m/2^((blen (oneD d).m:Int)-p).toNat+if up == (oneD d).neg then 0 else 1):Int)≤max (blen (oneD d).m-((blen (oneD d).m:Int)-p)) 0+1:=by
      obtain ⟨N,hN⟩:∃ N:Nat,(N:Int)=max (blen (oneD d).m-((blen (oneD d).m:Int)-p)) 0:=⟨(max (blen (oneD d).m-((blen (oneD d).m:Int)-p)) 0).toNat,by omega⟩
      have q1:(oneD d).m/2^((blen (oneD d).m:Int)-p).toNat<2^N:=by
        refine Int.ediv_lt_of_lt_mul p0 ?_
        rw [←Int.pow_add]
        exact Int.lt_of_lt_of_le (blen_lt _) (two_pow_le (by omega))
      have:blen ((oneD d).m/2^((blen (oneD d).m:Int)-p).toNat+if up == (oneD d).neg then 0 else 1)≤N+1:=blen_le (by
        rw [Int.pow_succ];have:=two_pow_pos N;split<;>omega)
      omega
    refine mkD_bd (by split<;>omega) l0 (by omega) (by omega) ?_
    omega
def Vx.Bd(L T:Int)(v:Vx):Prop:=v.lo.Bd L T∧v.hi.Bd L T
theorem Vx.Bd.sm{L T:Int}{v:Vx}(h:v.Bd L T){N:Nat}(hn:L+T≤N):v.Sm N:=⟨h.1.sm hn,h.2.sm hn⟩
theorem Vx.Bd.mono{L T L' T':Int}{v:Vx}(h:v.Bd L T)(hl:L≤L')(ht:T≤T'):v.Bd L' T':=⟨h.1.mono hl ht,h.2.mono hl ht⟩
theorem Vx.Bd.trim{L T:Int}{v:Vx}{p:Int}(hv:v.P)(hp:0≤p)(h:v.Bd L T):(trimV v p).Bd L (T+1):=⟨h.1.cut hv.1 hp,h.2.cut hv.2 hp⟩
theorem Dx.Bd.point{L T:Int}{d:Dx}(hd:0≤d.m)(h:d.Bd L T):(pointV d).Bd L T:=⟨h.one hd,h.one hd⟩
theorem Vx.Bd.turn{L T:Int}{v:Vx}(hv:v.P)(h:v.Bd L T):(turnV v).Bd L T:=⟨h.2.neg hv.2,h.1.neg hv.1⟩
theorem Vx.Bd.plus{L T:Int}{v u:Vx}{p:Int}(hv:v.P)(hu:u.P)(hp:0≤p)(h:v.Bd L T)(k:u.Bd L T):(plusV v u p).Bd L (T+1+1):=Vx.Bd.trim (v:=sumV v u) ⟨plusD_p,plusD_p⟩ hp ⟨h.1.plus hv.1 hu.1 k.1,h.2.plus hv.2 hu.2 k.2⟩
theorem Vx.Bd.less{L T:Int}{v u:Vx}{p:Int}(hv:v.P)(hu:u.P)(hp:0≤p)(h:v.Bd L T)(k:u.Bd L T):(lessV v u p).Bd L (T+1+1):=h.plus (u:=turnV u) hv ⟨negD_p,negD_p⟩ hp (k.turn hu)
theorem spanS_bd{L T:Int}{v:Vx}{d:Dx}(h:v.Bd L T)(k:d.Bd L T):(spanS v d).Bd L T:=by
  unfold spanS
  constructor
  · show (if cmpD d v.lo<0 then d else v.lo).Bd L T
    split
    · exact k
    · exact h.1
  · show (if 0<cmpD d v.hi then d else v.hi).Bd L T
    split
    · exact k
    · exact h.2
theorem Vx.Bd.times{L T L' T':Int}{v u:Vx}{p:Int}(hv:v.P)(hu:u.P)(hp:0≤p)(h:v.Bd L T)(k:u.Bd L' T'):(timesV v u p).Bd (L+L') (T+T' + 1) :=
  Vx.Bd.trim (prodV_p v u) hp (spanS_bd (spanS_bd (spanS_bd ⟨h.1.times hv.1 hu.1 k.1,h.1.times hv.1 hu.1 k.1⟩ (h.1.times hv.1 hu.2 k.2)) (h.2.times hv.2 hu.1 k.1)) (h.2.times hv.2 hu.2 k.2))
theorem fits_bd{d:Dx}(h:d.fitsB=true):d.Bd 32768 98304:=by
  have e:=fits_e h
  have:=(fits_sm h).1
  exact ⟨by omega,by omega,by omega,by omega⟩
def tyFI:TyRow:=⟨119,1,false,[.lit .nilFunc],.func⟩
def tys6:List TyRow:=tyFI :: tys5
theorem tys6_ok:RowsOk Tryz.prog tys6:=⟨by kernel_rfl,tys5_ok⟩
def qPiW(co:Int→Vx×Int):Spec:=specK [.i .i64] fun (w:Int)=>(none,reT (co w))
def sQp(co:Int→Vx×Int):List (FuncId×Spec):=[(108,specK [.i .u8,.i .i64] fun (k:Int) (p:Int)=>(some (k=1),reT (co p)))]
theorem sQp_ok:SpecsOk Tryz.prog (sQp constR):=⟨cConst_ok,trivial⟩
theorem qPi_vc(w:Int)(co:Int→Vx×Int)(Q:Tv→Prop):execF ⟨tys6,sQp co⟩ (fun _=>none) 0 Tryz.f107 [.one (.int .i64 w)] Q=((1:Int)=(1:Int)∧Q (Tv.tup [Sv.agg (ivL false (co w).fst),Sv.one (At.int .i64 (co w).snd)])):=by kernel_rfl
theorem qPi_ok:SpecOk Tryz.prog 107 (qPiW constR) :=
  specK_ok (envOk tys6_ok sQp_ok) mixed Tryz.func107 rfl (by decide) (by decide) fun (w:Int) _ _=>⟨fun _=>none,0,(qPi_vc w constR _).mpr ⟨rfl,rfl⟩⟩
def sRed:List (FuncId×Spec):=[(141,rNear),(144,rBy4),(147,rInt)] ++ sRaw8
theorem sRed_ok:SpecsOk Tryz.prog sRed:=⟨rNear_ok,rBy4_ok,rInt_ok,sRaw8_ok⟩
def halfP(w:Int):Vx:=scaleV (constPi w) (-1)
theorem halfP_hf{w:Int}(w0:8≤w)(w1:w≤65000):HfIv (p2 (-3-w)/2) (halfP w):=(constPi_iv w0 w1).half
theorem blen32{a w:Int}(w0:0≤w)(h:a<64*2^w.toNat):(blen a:Int)≤w+6:=by
  have:blen a≤w.toNat+6:=blen_le (by rw [Int.pow_add];have:(2:Int)^6=64:=by decide
                                     rw [this];omega)
  omega
theorem pow_ge{w:Int}(w0:64≤w)(w1:w≤65536):80*w+320≤2^w.toNat:=by
  obtain ⟨k,hk⟩:∃ k:Nat,w=k+32:=⟨(w-32).toNat,by omega⟩
  have pb:=pow_big k
  rw [show w.toNat=k+32 by omega];omega
theorem ivF_bd{z:Fx}{w:Int}(w0:64≤w)(w1:w≤65536)(a0:0≤z.a)(e0:0≤z.e)(e1:z.e≤80*w+320)(a1:z.a≤32*2^w.toNat):(ivF z w).Bd w 7:=by
  have g:=pow_ge w0 w1
  have b1:=blen32 (a:=z.a) (w:=w) (by omega) (by omega)
  have b2:=blen32 (a:=z.a+z.e) (w:=w) (by omega) (by omega)
  exact ⟨mkD_bd a0 (by omega) (by omega) (by omega) (by omega),mkD_bd (by omega) (by omega) (by omega) (by omega) (by omega)⟩
theorem Vx.Bd.scale1{L T:Int}{v:Vx}(hv:v.P)(h:v.Bd L T):(scaleV v (-1)).Bd (L+1) T:=⟨h.1.shift hv.1 (by have:=h.1.l0;omega) h.1.t0 (by omega) (by omega),h.2.shift hv.2 (by have:=h.1.l0;omega) h.1.t0 (by omega) (by omega)⟩
theorem constPi_bd{w:Int}(w0:8≤w)(w1:w≤16384):(constPi w).Bd (w+64) 8:=by
  obtain ⟨a0,e0,e1,a1⟩:=piF_e (w:=w+64) (by omega) (by omega)
  exact Vx.Bd.trim (encPi_iv w0 (by omega)).p (by omega) (ivF_bd (by omega) (by omega) a0 e0 e1 a1)
theorem halfP_bd{w:Int}(w0:8≤w)(w1:w≤16384):(halfP w).Bd (w+65) 8:=Vx.Bd.mono ((constPi_bd w0 w1).scale1 (constPi_iv w0 (show w≤65000 by omega)).p) (by omega) (by omega)
def tryT(r:Int×Vx×Bool):Tv:=.tup [.one (.int .i64 r.1),.agg (ivL true r.2.1),.one (.bool r.2.2)]
def inX(x:Dx):Prop:=x.Bd 32768 98304∧x.rv<p2 (1024:Nat)∧-(p2 (1024:Nat))<x.rv
def wTry(pr:Dx→Int→Int→Prop)(g:Dx→Int→Int→Int×Vx×Bool):Spec:=fun l=>match l with
  | [.agg [.bool ng,.words false xs,.int .i64 e],.one (.int .i64 p),.one (.int .i64 w),.one (.fn n [])]=>(match Nat.beq n 107 with
    | true=>(some (pr ⟨ng,xs,e⟩ p w),tryT (g ⟨ng,xs,e⟩ p w))
    | false=>noSpec)
  | _=>noSpec
theorem qTry_vc(x:Dx)(p w:Int)(co:Int→Vx×Int)(Q:Tv→Prop):execF ⟨tys6,(107,qPiW co) :: sRed⟩ (fun _=>none) 0 Tryz.f109 [.agg (dyL false x),.one (.int .i64 p),.one (.int .i64 w),.one (.fn 107 [])] Q=(br (neI (co w).snd 0) (Q (Tv.tup [Sv.one (At.int .i64 0),Sv.agg [At.bool false,At.words true [],At.int .i64 0,At.bool false,At.words true [],At.int .i64 0],Sv.one (At.bool false)])) ((eB 2305843009213693952 (co w).fst.lo∧eB 2305843009213693952 (co w).fst.hi∧(-2305843009213693952:Int)≤(-1)∧(-1:Int)≤2305843009213693952)∧eB 4611686018427387904 x∧(Vx.Sm 67108864 (pointV x)∧Vx.Sm 67108864 (scaleV (co w).fst (-1))∧Dx.m (scaleV (co w).fst (-1)).lo≠0∧Dx.m (scaleV (co w).fst (-1)).hi≠0∧(0:Int)≤w∧w≤67108864)∧true=true∧Dx.Sm 268435456 (divV (pointV x) (scaleV (co w).fst (-1)) w).lo∧Dx.Sm 268435456 (divV (pointV x) (scaleV (co w).fst (-1)) w).hi∧(Dx.Sm 68719476736 (nearD (divV (pointV x) (scaleV (co w).fst (-1)) w).lo)∧Dx.Sm 68719476736 (nearD (divV (pointV x) (scaleV (co w).fst (-1)) w).hi))∧true=true∧br (neI (cmpD (nearD (divV (pointV x) (scaleV (co w).fst (-1)) w).lo) (nearD (divV (pointV x) (scaleV (co w).fst (-1)) w).hi)) 0) (Q (Tv.tup [Sv.one (At.int .i64 0),Sv.agg [At.bool false,At.words true [],At.int .i64 0,At.bool false,At.words true [],At.int .i64 0],Sv.one (At.bool false)])) (eB 4611686018427387904 x∧eB 4611686018427387904 (nearD (divV (pointV x) (scaleV (co w).fst (-1)) w).lo)∧inR (w+64)∧(Vx.Sm 268435456 (pointV (nearD (divV (pointV x) (scaleV (co w).fst (-1)) w).lo))∧Vx.Sm 268435456 (scaleV (co w).fst (-1))∧(0:Int)≤w+64∧w+64≤1099511627776)∧(Vx.Sm 134217728 (pointV x)∧Vx.Sm 134217728 (timesV (pointV (nearD (divV (pointV x) (scaleV (co w).fst (-1)) w).lo)) (scaleV (co w).fst (-1)) (w+64))∧(0:Int)≤w∧w≤1099511627776)∧true=true∧(OneF (nearD (divV (pointV x) (scaleV (co w).fst (-1)) w).lo)∧(0:Int)≤(nearD (divV (pointV x) (scaleV (co w).fst (-1)) w).lo).e∧(nearD (divV (pointV x) (scaleV (co w).fst (-1)) w).lo).e≤4611686018427387904)∧(Vx.Sm 67108864 (lessV (pointV x) (timesV (pointV (nearD (divV (pointV x) (scaleV (co w).fst (-1)) w).lo)) (scaleV (co w).fst (-1)) (w+64)) w)∧(0:Int)≤p)∧true=true∧Q (Tv.tup [Sv.one (At.int .i64 (by4I (nearD (divV (pointV x) (scaleV (co w).fst (-1)) w).lo))),Sv.agg (ivL true (lessV (pointV x) (timesV (pointV (nearD (divV (pointV x) (scaleV (co w).fst (-1)) w).lo)) (scaleV (co w).fst (-1)) (w+64)) w)),Sv.one (At.bool (narrowV (lessV (pointV x) (timesV (pointV (nearD (divV (pointV x) (scaleV (co w).fst (-1)) w).lo)) (scaleV (co w).fst (-1)) (w+64)) w) p))])))):=by kernel_rfl
def preTry(x:Dx)(p w:Int):Prop:=inX x∧8≤w∧w≤8192∧0≤p
theorem sTry_ok:SpecsOk Tryz.prog ((107,qPiW constR) :: sRed):=⟨qPi_ok,sRed_ok⟩
theorem qTry_ok:SpecOk Tryz.prog 109 (wTry preTry (fun x p w=>tryW (halfP w) x p w)) :=
  specOk_pat (envOk tys6_ok sTry_ok) mixed Tryz.func109 rfl (by decide) 4 (by decide) fun l p t hwf e hp=>by
    unfold wTry at e
    split at e
    · rename_i ng xs ee p w n
      split at e
      rotate_left
      · cases e;exact hp.elim
      rename_i hb
      obtain rfl:=Nat.eq_of_beq_eq_true hb
      cases e
      obtain ⟨⟨bx,x1,x2⟩,w0,w1,p0⟩:preTry ⟨ng,xs,ee⟩ p w:=hp
      have hx:0≤Dx.m ⟨ng,xs,ee⟩:=val_nonneg hwf.1.2.1.1
      refine ⟨Nat.le_refl 4,fun _=>none,0,(qTry_vc ⟨ng,xs,ee⟩ p w constR _).mpr ?_⟩
      have ec:constR w=(constPi w,0):=by unfold constR;rw [if_pos ⟨w0,w1⟩]
      rw [ec]
      generalize (⟨ng,xs,ee⟩:Dx)=x at *
      have hf:=halfP_hf w0 (show w≤65000 by omega)
      have hb:=halfP_bd w0 (show w≤16384 by omega)
      have cs:=right_sm (constPi_right w0 (show w≤16384 by omega))
      refine br_intro (fun h=>by cases h) fun _=>?_
      show (eB _ (constPi w).lo∧eB _ (constPi w).hi∧_∧_)∧_∧(_∧Vx.Sm _ (halfP w)∧Dx.m (halfP w).lo≠0∧Dx.m (halfP w).hi≠0∧_∧_)∧_∧Dx.Sm _ (quoW (halfP w) x w).lo∧Dx.Sm _ (quoW (halfP w) x w).hi∧(Dx.Sm _ (nW (halfP w) x w)∧Dx.Sm _ (nearD (quoW (halfP w) x w).hi))∧_ ∧
        br (!sureW (halfP w) x w) (tryT (0,zeroIv,false)=tryT (tryW (halfP w) x p w)∨fgT (tryT (0,zeroIv,false))=tryT (tryW (halfP w) x p w)) (_∧eB _ (nW (halfP w) x w)∧_∧(Vx.Sm _ (pointV (nW (halfP w) x w))∧Vx.Sm _ (halfP w)∧_∧_)∧(_∧Vx.Sm _ (timesV (pointV (nW (halfP w) x w)) (halfP w) (w+64))∧_∧_)∧_∧(OneF (nW (halfP w) x w)∧0≤(nW (halfP w) x w).e∧(nW (halfP w) x w).e≤4611686018427387904)∧(Vx.Sm _ (restW (halfP w) x w)∧_)∧_ ∧
          (tryT (by4I (nW (halfP w) x w),restW (halfP w) x w,narrowV (restW (halfP w) x w) p)=tryT (tryW (halfP w) x p w)∨fgT (tryT (by4I (nW (halfP w) x w),restW (halfP w) x w,narrowV (restW (halfP w) x w) p))=tryT (tryW (halfP w) x p w)))
      generalize halfP w=h at *
      have sx:=bx.sm (N:=131072) (by omega)
      have hs:=hb.sm (N:=16384) (by omega)
      have q:=quoW_sm (w:=w) hx hf.p sx (hs.mono (by omega)) (by omega) (by omega)
      have sn:=nW_sm hf hx (w:=w) (by omega) x1 x2
      have np:0≤(nW h x w).m:=nearD_p
      have bn:(nW h x w).Bd 0 2051:=⟨by omega,by omega,nearD_e,by have:=sn.1;have:=sn.2.2;omega⟩
      have z1:=bx.point hx
      have zn:=bn.point np
      have zt:(timesV (pointV (nW h x w)) h (w+64)).Bd (0+(w+65)) (2051+8+1):=zn.times (pointV_p _) hf.p (by omega) hb
      have zr:(restW h x w).Bd 32768 98306:=z1.less (pointV_p x) (trimV_p _ _) (by omega) (zt.mono (by omega) (by omega))
      have r1:Dx.rv h.lo≠0:=by have:=hf.lo;grind
      have r2:Dx.rv h.hi≠0:=by have:=hf.lo;have:=hf.le;grind
      refine ⟨⟨cs.1.eB (by omega),cs.2.eB (by omega),by omega,by omega⟩,sx.eB (by omega),⟨z1.sm (by omega),hs.mono (by omega),rv_ne r1,rv_ne r2,by omega,by omega⟩,rfl,q.1.mono (by omega),q.2.mono (by omega),⟨sn.mono (by omega),(nearD_sm (divV_p _ _ _).2 q.2 (by omega)).mono (by omega)⟩,rfl,br_intro (fun hb=>.inl ?_) fun hb=>⟨sx.eB (by omega),sn.eB (by omega),⟨by omega,by omega⟩,⟨zn.sm (by omega),hs.mono (by omega),by omega,by omega⟩,⟨z1.sm (by omega),zt.sm (by omega),by omega,by omega⟩,rfl,⟨nearD_f,nearD_e,by have:=sn.2.2;omega⟩,⟨zr.sm (by omega),p0⟩,rfl,.inl ?_⟩⟩
      · rw [tryW,if_neg (by rw [not_true hb];simp)]
      · rw [tryW,if_pos (not_false' hb)]
    · cases e;exact hp.elim
def dyX(b:Nat)(nw:Bool)(x:Dx):List (Nat×Nat×At):=[(b,0,.bool x.neg),(b,1,.words nw x.xs),(b,2,.int .i64 x.e)]
def zvX(b:Nat):List (Nat×Nat×At):=[(b,0,.bool false),(b,1,.words true []),(b,2,.int .i64 0),(b,3,.bool false),(b,4,.words true []),(b,5,.int .i64 0)]
def quK:LKeep:=⟨[1,2,5,7,8],[(0,3),(2,6)],3⟩
def quSt(x:Dx)(p:Int)(a:Nat×Int):List (Nat×Tv)×List (Nat×Nat×At) :=
  ([(1,iT p),(2,.sv (.one (.ptr 0 0))),(5,.sv (.one (.ptr 2 0))),(7,.sv (.one (.fn 107 []))),(8,iT a.2)],dyX 0 true x ++ zvX 2)
def quInv(x:Dx)(p:Int)(P:Nat×Int→Prop):Nat→Option LInv:=invAt 11 (.rel quK (Nat×Int) (quSt x p) P (fun a=>a.1))
theorem qQu_vc(x:Dx)(p:Int)(P:Nat×Int→Prop)(pr:Dx→Int→Int→Prop)(g:Dx→Int→Int→Int×Vx×Bool)(Q:Tv→Prop):execF ⟨tys6,(109,wTry pr g) :: sRed⟩ (quInv (oneD x) p P) 0 Tryz.f75 [.agg (dyL false x),.one (.int .i64 p)] Q=(br (!Dx.fitsB x) (Q (Tv.tup [Sv.one (At.int .i64 0),Sv.agg [At.bool false,At.words true [],At.int .i64 0,At.bool false,At.words true [],At.int .i64 0],Sv.one (At.int .i64 2)])) (br (ltI p 8) (Q (Tv.tup [Sv.one (At.int .i64 0),Sv.agg [At.bool false,At.words true [],At.int .i64 0,At.bool false,At.words true [],At.int .i64 0],Sv.one (At.int .i64 2)])) (br (ltI 3968 p) (Q (Tv.tup [Sv.one (At.int .i64 0),Sv.agg [At.bool false,At.words true [],At.int .i64 0,At.bool false,At.words true [],At.int .i64 0],Sv.one (At.int .i64 2)])) (((-4611686018427387904:Int)≤x.e∧x.e≤4611686018427387904)∧br (Dx.zeroB (oneD x)) (Q (Tv.tup [Sv.one (At.int .i64 0),Sv.agg [At.bool false,At.words true [],At.int .i64 0,At.bool false,At.words true [],At.int .i64 0],Sv.one (At.int .i64 0)])) (((-2305843009213693952:Int)≤(oneD x).e∧(oneD x).e≤2305843009213693952)∧br (leI 1024 ((oneD x).e+(↑(blen (Dx.m (oneD x))):Int)-1)) (Q (Tv.tup [Sv.one (At.int .i64 0),Sv.agg [At.bool false,At.words true [],At.int .i64 0,At.bool false,At.words true [],At.int .i64 0],Sv.one (At.int .i64 3)])) (((-2305843009213693952:Int)≤(oneD x).e∧(oneD x).e≤2305843009213693952)∧inR (maxI ((oneD x).e+(↑(blen (Dx.m (oneD x))):Int)-1) 0+p)∧inR (maxI ((oneD x).e+(↑(blen (Dx.m (oneD x))):Int)-1) 0+p+64)∧true=true∧(∃ (a:Nat×Int),P a∧Sg.mk [(1,iT p),(2,Tv.sv (Sv.one (At.ptr 0 0))),(5,Tv.sv (Sv.one (At.ptr ((0:Nat)+2) 0))),(7,Tv.sv (Sv.one (At.fn 107 []))),(8,iT (maxI ((oneD x).e+(↑(blen (Dx.m (oneD x))):Int)-1) 0+p+64))] [(0,0,At.bool (oneD x).neg),(0,1,At.words true (oneD x).xs),(0,2,At.int .i64 (oneD x).e),(2,0,At.bool false),(2,1,At.words true []),(2,2,At.int .i64 0),(2,3,At.bool false),(2,4,At.words true []),(2,5,At.int .i64 0)] 3=LKeep.at quK (quSt (oneD x) p a))∧∀ (a:Nat×Int),P a→pr (oneD x) p (minI a.snd 8192)∧br (g (oneD x) p (minI a.snd 8192)).snd.snd (br (rightV (g (oneD x) p (minI a.snd 8192)).snd.fst) (true=true∧Q (Tv.tup [Sv.one (At.int .i64 (g (oneD x) p (minI a.snd 8192)).fst),Sv.agg (ivL true (g (oneD x) p (minI a.snd 8192)).snd.fst),Sv.one (At.int .i64 0)])) (br (eqI (minI a.snd 8192) 8192) (Q (Tv.tup [Sv.one (At.int .i64 0),Sv.agg [At.bool false,At.words true [],At.int .i64 0,At.bool false,At.words true [],At.int .i64 0],Sv.one (At.int .i64 6)])) (inR ((2:Int)*minI a.snd 8192)∧true=true∧∃ (a':Nat×Int),P a'∧Sg.mk [(1,iT p),(2,Tv.sv (Sv.one (At.ptr 0 0))),(5,Tv.sv (Sv.one (At.ptr 2 0))),(7,Tv.sv (Sv.one (At.fn 107 []))),(8,iT ((2:Int)*minI a.snd 8192))] [(0,0,At.bool (oneD x).neg),(0,1,At.words true (oneD x).xs),(0,2,At.int .i64 (oneD x).e),(2,0,At.bool false),(2,1,At.words true []),(2,2,At.int .i64 0),(2,3,At.bool false),(2,4,At.words true []),(2,5,At.int .i64 0)] 3=LKeep.at quK (quSt (oneD x) p a')∧a'.fst<a.fst))) (br (eqI (minI a.snd 8192) 8192) (Q (Tv.tup [Sv.one (At.int .i64 0),Sv.agg [At.bool false,At.words true [],At.int .i64 0,At.bool false,At.words true [],At.int .i64 0],Sv.one (At.int .i64 6)])) (inR ((2:Int)*minI a.snd 8192)∧true=true∧∃ (a':Nat×Int),P a'∧Sg.mk [(1,iT p),(2,Tv.sv (Sv.one (At.ptr 0 0))),(5,Tv.sv (Sv.one (At.ptr 2 0))),(7,Tv.sv (Sv.one (At.fn 107 []))),(8,iT ((2:Int)*minI a.snd 8192))] [(0,0,At.bool (oneD x).neg),(0,1,At.words true (oneD x).xs),(0,2,At.int .i64 (oneD x).e),(2,0,At.bool false),(2,1,At.words true []),(2,2,At.int .i64 0),(2,3,At.bool false),(2,4,At.words true []),(2,5,At.int .i64 0)] 3=LKeep.at quK (quSt (oneD x) p a')∧a'.fst<a.fst)))))))):=by kernel_rfl
def topD(x:Dx):Int:=x.e+blen x.m-1
def tryP(x:Dx)(p w:Int):Int×Vx×Bool:=tryW (halfP w) x p w
def okW(x:Dx)(p w:Int):Bool:=(tryP x p w).2.2 && rightV (tryP x p w).2.1
def quarL(x:Dx)(p:Int):Nat→Int→Int×Vx×Int
  | 0,_=>(0,zeroIv,6)
  | n+1,w=>if okW x p (min w 8192)=true then ((tryP x p (min w 8192)).1,(tryP x p (min w 8192)).2.1,0) else if min w 8192=8192 then (0,zeroIv,6) else quarL x p n (2*min w 8192)
def quarR(x:Dx)(p:Int):Int×Vx×Int :=
  if x.fitsB=true∧8≤p∧p≤3968 then (if (oneD x).m=0 then (0,zeroIv,0) else if 1024≤topD (oneD x) then (0,zeroIv,3) else quarL (oneD x) p 9 (max (topD (oneD x)) 0+p+64)) else (0,zeroIv,2)
def quT(r:Int×Vx×Int):Tv:=.tup [.one (.int .i64 r.1),.agg (ivL false r.2.1),.one (.int .i64 r.2.2)]
def qQu:Spec:=specK [.d,.i .i64] fun (x:Dx) (p:Int)=>(none,quT (quarR x p))
theorem top_lt{x:Dx}(hx:0≤x.m)(h:topD x<1024):x.rv<p2 (1024:Nat)∧-(p2 (1024:Nat))<x.rv:=by
  have q:=p2_pos ((1024:Nat):Int)
  have a:=amt_lt (m:=x.m) (e:=x.e)
  have l:=p2_le (show x.e+(blen x.m:Int)≤((1024:Nat):Int) by unfold topD at h;omega)
  obtain ⟨r1,r2⟩:=rv_amt hx
  rcases (show 0≤x.rv∨x.rv≤0 by grind) with s | s
  · have:=r1 s
    generalize p2 ((1024:Nat):Int)=Q at *
    constructor<;>grind
  · have:=r2 s
    generalize p2 ((1024:Nat):Int)=Q at *
    constructor<;>grind
theorem sQu_ok:SpecsOk Tryz.prog ((109,wTry preTry (fun x p w=>tryW (halfP w) x p w)) :: sRed):=⟨qTry_ok,sRed_ok⟩
theorem qQu_ok:SpecOk Tryz.prog 75 qQu :=
  specKW_ok (envOk tys6_ok sQu_ok) mixed Tryz.func75 rfl (by decide) (by decide) fun (x:Dx) hxw (p:Int) _ _=>by
    have hx:=Dx.Wf.m0 hxw
    obtain ⟨R,hR⟩:∃ R,R=quarL (oneD x) p 9 (max (topD (oneD x)) 0+p+64):=⟨_,rfl⟩
    refine ⟨quInv (oneD x) p (fun a=>quarL (oneD x) p a.1 a.2=R∧1≤a.1∧8≤a.2∧a.2≤16384∧16384≤a.2*2^a.1),0,?_⟩
    show execF _ _ _ _ _ (fun t=>t=quT (quarR x p)∨fgT t=quT (quarR x p))
    refine (qQu_vc x p _ preTry (fun x p w=>tryW (halfP w) x p w) _).mpr (br_intro (fun h=>.inr ?_) fun h=>br_intro (fun h1=>.inr ?_) fun h1=>br_intro (fun h2=>.inr ?_) fun h2=>?_)
    · rw [quarR,if_neg (by rw [not_true h];simp)];rfl
    · rw [quarR,if_neg (by have:=ltI_true.1 h1;omega)];rfl
    · rw [quarR,if_neg (by have:=ltI_true.1 h2;omega)];rfl
    have h:=not_false' h
    have h1:=ltI_false.1 h1
    have h2:=ltI_false.1 h2
    have bx:=(fits_bd h).one hx
    have xe:=fits_e h
    have y0:=oneD_p (d:=x)
    rw [quarR,if_pos ⟨h,by omega,by omega⟩]
    refine ⟨⟨by omega,by omega⟩,br_intro (fun h3=>.inr ?_) fun h3=>?_⟩
    · rw [if_pos (zeroB_true.1 h3)];rfl
    rw [if_neg (zeroB_false.1 h3)]
    have te:(oneD x).e+(blen (oneD x).m:Int)-1=topD (oneD x):=rfl
    have b1:=bx.lo
    have b2:=bx.hi
    have bp:=blen_pos (show 0<(oneD x).m by have:=zeroB_false.1 h3;omega)
    rw [te]
    refine ⟨⟨by omega,by omega⟩,br_intro (fun h4=>.inr ?_) fun h4=>?_⟩
    · rw [if_pos (leI_true.1 h4)];rfl
    have h4:=leI_false.1 h4
    rw [if_neg h4,maxI_eq,←hR]
    obtain ⟨t1,t2⟩:=top_lt y0 (by omega)
    refine ⟨⟨by omega,by omega⟩,⟨by omega,by omega⟩,⟨by omega,by omega⟩,rfl,⟨(9,max (topD (oneD x)) 0+p+64),⟨hR.symm,by omega,by omega,by omega,by show 16384≤(max (topD (oneD x)) 0+p+64)*2^9;omega⟩,rfl⟩,fun a ha=>?_⟩
    obtain ⟨n,w⟩:=a
    obtain ⟨e,n1,w0,w1,w2⟩:quarL (oneD x) p n w=R∧1≤n∧8≤w∧w≤16384∧16384≤w*2^n:=ha
    obtain ⟨m,rfl⟩:∃ m,n=m+1:=⟨n-1,by omega⟩
    rw [quarL] at e
    show preTry (oneD x) p (minI w 8192)∧br (tryP (oneD x) p (minI w 8192)).2.2 (br (rightV (tryP (oneD x) p (minI w 8192)).2.1) _ _) _
    rw [minI_eq]
    refine ⟨⟨⟨bx,t1,t2⟩,by omega,by omega,by omega⟩,?_⟩
    have fin:okW (oneD x) p (min w 8192)=false→min w 8192≠8192→inR (2*min w 8192)∧true=true∧∃ a':Nat×Int,(quarL (oneD x) p a'.1 a'.2=R∧1≤a'.1∧8≤a'.2∧a'.2≤16384∧16384≤a'.2*2^a'.1)∧quK.at (quSt (oneD x) p (0,2*min w 8192))=quK.at (quSt (oneD x) p a')∧a'.1<m+1:=fun ok hw=>by
      rw [if_neg (by rw [ok];simp),if_neg hw] at e
      have hm:min w 8192=w:=by omega
      rw [hm] at e ⊢
      rw [Int.pow_succ] at w2
      have m1:1≤m:=by
        refine Nat.pos_of_ne_zero fun hm0=>?_
        rw [hm0,Int.pow_zero] at w2;omega
      refine ⟨⟨by omega,by omega⟩,rfl,(m,2*w),⟨e,m1,by omega,by omega,?_⟩,rfl,Nat.lt_succ_self _⟩
      show 16384≤2*w*2^m
      rw [Int.mul_comm (2^m) 2,←Int.mul_assoc,Int.mul_comm w 2] at w2;exact w2
    have hard:okW (oneD x) p (min w 8192)=false→min w 8192=8192→R=(0,zeroIv,6):=fun ok hw=>by
      rw [if_neg (by rw [ok];simp),if_pos hw] at e
      exact e.symm
    refine br_intro (fun h5=>br_intro (fun h6=>⟨rfl,.inr ?_⟩) fun h6=>?_) fun h5=>?_
    · rw [if_pos (by unfold okW;rw [h5,h6];rfl)] at e
      rw [←e];rfl
    · have ok:okW (oneD x) p (min w 8192)=false:=by unfold okW;rw [h6,Bool.and_false]
      exact br_intro (fun h7=>.inr (by rw [hard ok (eqI_true.1 h7)];rfl)) fun h7=>fin ok (eqI_false.1 h7)
    · have ok:okW (oneD x) p (min w 8192)=false:=by unfold okW;rw [h5,Bool.false_and]
      exact br_intro (fun h7=>.inr (by rw [hard ok (eqI_true.1 h7)];rfl)) fun h7=>fin ok (eqI_false.1 h7)
section
variable {n w:Int} (h:InvOk n w)
include h
end
def refH(w:Int):Vx:=scaleV (refPi w) (-1)
theorem refH_hf{w:Int}(w0:32≤w)(w1:w≤65536):HfIv (p2 (23-w)/2) (refH w):=(refPi_iv w0 w1).half
theorem refPi_bd{w:Int}(w0:64≤w)(w1:w≤65536):(refPi w).Bd w 7:=by
  obtain ⟨a0,e0,e1,a1⟩:=piR_e (w:=w) (by omega) (by omega)
  exact ivF_bd w0 w1 a0 e0 e1 a1
def tryH(x:Dx)(p w:Int):Int×Vx×Bool:=if sureW (refH w) x w=true then (by4I (nW (refH w) x w),restW (refH w) x w,narrowB (restW (refH w) x w) p) else (0,zeroIv,false)
theorem half_sizes{d:Rat}{h:Vx}(hf:HfIv d h){w:Int}(w0:8≤w)(w1:w≤65536)(hb:h.Bd (w+65) 8){x:Dx}(hx:0≤x.m)(hi:inX x) :
    (pointV x).Bd 32768 98304∧h.Sm 131072∧(quoW h x w).Sm 26214500∧(nW h x w).Bd 0 2051∧(timesV (pointV (nW h x w)) h (w+64)).Bd (w+65) 2060∧(restW h x w).Bd 65602 98306:=by
  obtain ⟨bx,x1,x2⟩:=hi
  have sx:=bx.sm (N:=131072) (by omega)
  have hs:=hb.sm (N:=131072) (by omega)
  have q:=quoW_sm (w:=w) hx hf.p sx (hs.mono (by omega)) (by omega) (by omega)
  have sn:=nW_sm hf hx (w:=w) (by omega) x1 x2
  have np:0≤(nW h x w).m:=nearD_p
  have bn:(nW h x w).Bd 0 2051:=⟨by omega,by omega,nearD_e,by have:=sn.1;have:=sn.2.2;omega⟩
  have z1:=bx.point hx
  have zn:=bn.point np
  have zt:(timesV (pointV (nW h x w)) h (w+64)).Bd (0+(w+65)) (2051+8+1):=zn.times (pointV_p _) hf.p (by omega) hb
  have zr:(restW h x w).Bd 65602 98306:=(z1.mono (L':=65602) (T':=98304) (by omega) (by omega)).less (pointV_p x) (trimV_p _ _) (by omega) (zt.mono (by omega) (by omega))
  exact ⟨z1,hs,⟨q.1.mono (by omega),q.2.mono (by omega)⟩,bn,zt.mono (by omega) (by omega),zr⟩
def faultQ(x:Dx)(p:Int):Int:=if x.fitsB=true∧8≤p∧p≤3968 then (if x.m≠0∧1024≤topD (oneD x) then 3 else 0) else 2
def hquL(x:Dx)(p:Int):Nat→Int→Int×Vx×Int
  | 0,_=>(0,zeroIv,6)
  | n+1,w=>if w≤16384 then (if (tryH x p w).2.2=true then ((tryH x p w).1,(tryH x p w).2.1,0) else hquL x p n (2*w)) else (0,zeroIv,6)
def hquR(x:Dx)(p:Int):Int×Vx×Int:=if faultQ x p≠0∨x.m=0 then (0,zeroIv,faultQ x p) else hquL x p 9 (max (topD (oneD x)) 0+p+64)
theorem inX_of{x:Dx}(hx:0≤x.m)(hf:x.fitsB=true)(ht:topD (oneD x)<1024):inX x:=by
  have t:=top_lt (x:=oneD x) oneD_p ht
  rw [rv_one hx] at t
  exact ⟨fits_bd hf,t.1,t.2⟩
theorem Dn.close{p:Int}{q r A:Rat}(h:Dn p q r)(hp:1≤p)(h1:-A≤q)(h2:q≤A):q-eps p*A≤r∧r≤q:=by
  have e0:=eps_pos p
  refine ⟨?_,h.2.1⟩
  rcases (show 0<q∨q=0∨q<0 by grind) with c | c | c
  · have r1:=(h.rel hp c).1
    have m:=rmL h2 (rlL e0)
    grind
  · subst c
    have:=h.2.2 0 (Rp.zero p) Rat.le_refl
    have m:=rmL h2 (rlL e0)
    grind
  · have r1:=h.neg.rel hp (show 0 < -q by grind)
    have m:=rmL (show -q≤A by grind) (rlL e0)
    grind
theorem Up.close{p:Int}{q r A:Rat}(h:Up p q r)(hp:1≤p)(h1:-A≤q)(h2:q≤A):q≤r∧r≤q+eps p*A:=by
  have:=h.neg.close hp (A:=A) (by grind) (by grind)
  constructor<;>grind
theorem mul_bd{x a b A:Rat}(hx1:-A≤x)(hx2:x≤A){d:Rat}(h1:a-b≤d)(h2:b-a≤d):x*a-x*b≤A*d∧x*b-x*a≤A*d:=by
  have d0:0≤d:=by grind
  have A0:0≤A:=by grind
  rcases (show 0≤x∨x≤0 by grind) with s | s
  · have m1:=rmL h1 s
    have m2:=rmL h2 s
    have m3:=rmR hx2 d0
    constructor<;>grind
  · have m1:=rmL h1 (show 0≤-x by grind)
    have m2:=rmL h2 (show 0≤-x by grind)
    have m3:=rmR (show -x≤A by grind) d0
    constructor<;>grind
theorem inv_close{a b d:Rat}(ha:3/2≤a)(hb:3/2≤b)(h1:a-b≤d)(h2:b-a≤d):a⁻¹-b⁻¹≤d∧b⁻¹-a⁻¹≤d:=by
  obtain ⟨a0,a1⟩:=inv_le1 ha
  obtain ⟨b0,b1⟩:=inv_le1 hb
  have ea:=Rat.inv_mul_cancel a (by grind)
  have eb:=Rat.inv_mul_cancel b (by grind)
  have d0:0≤d:=by grind
  have p0:=rmN (rlL a0) (rlL b0)
  have p1:a⁻¹*b⁻¹≤1:=by
    have:=rmL (show b⁻¹≤1 by grind) (rlL a0)
    grind
  have e1:a⁻¹-b⁻¹=(a⁻¹*b⁻¹)*(b-a):=by
    have x1:(a⁻¹*b⁻¹)*b=a⁻¹:=by rw [Rat.mul_assoc,eb,Rat.mul_one]
    have x2:(a⁻¹*b⁻¹)*a=b⁻¹:=by rw [Rat.mul_comm a⁻¹,Rat.mul_assoc,ea,Rat.mul_one]
    grind
  have m1:=rmL h2 p0
  have m2:=rmL h1 p0
  have m3:=rmR p1 d0
  constructor<;>grind
section
variable {d:Rat} {h:Vx} (k:HfIv d h) {x:Dx} (hx:0≤x.m) {w:Int} (hw:1≤w)
include k hx hw
omit hx hw in
theorem HfIv.d0:0≤d:=by
  have:=k.nar
  have:=k.le
  grind
theorem quoW_close{A c:Rat}(hc:InV h c)(h1:-A≤x.rv)(h2:x.rv≤A) :
    x.rv*c⁻¹-A*(d+eps w)≤(quoW h x w).lo.rv∧(quoW h x w).hi.rv≤x.rv*c⁻¹+A*(d+eps w):=by
  have A0:0≤A:=by grind
  have cl:=hc.1
  have ch:=hc.2
  have l:=k.lo
  have nr:=k.nar
  obtain ⟨⟨a,b,hcor,e1⟩,⟨a',b',hcor',e2⟩⟩:=div_at (pointV x) h w
  obtain ⟨p1,p2'⟩:=pointV_rv hx
  have le:=k.le
  have ra:∀ {a b:Dx},Cor (pointV x) h a b→a.rv=x.rv∧(x.rv*b.rv⁻¹-x.rv*c⁻¹≤A*d∧x.rv*c⁻¹-x.rv*b.rv⁻¹≤A*d)∧-A≤x.rv*b.rv⁻¹∧x.rv*b.rv⁻¹≤A:=fun {a b} hcor=>by
    have hb:3/2≤b.rv∧b.rv-c≤d∧c-b.rv≤d:=by
      rcases hcor.2 with e | e<;>rw [e]<;>exact ⟨by grind,by grind,by grind⟩
    obtain ⟨i1,i2⟩:=inv_close hb.1 (show 3/2≤c by grind) hb.2.1 hb.2.2
    obtain ⟨i0,i3⟩:=inv_le1 hb.1
    refine ⟨by rcases hcor.1 with e | e<;>rw [e];exact p1;exact p2',mul_bd h1 h2 i1 i2,?_⟩
    rcases (show 0≤x.rv∨x.rv≤0 by grind) with s | s
    · have m1:=rmL (show b.rv⁻¹≤1 by grind) s
      have m0:=rmN s (rlL i0)
      constructor<;>grind
    · have m1:=rmL (show b.rv⁻¹≤1 by grind) (show 0≤-x.rv by grind)
      have m0:=rmN (show 0≤-x.rv by grind) (rlL i0)
      constructor<;>grind
  obtain ⟨r1,r2,r3,r4⟩:=ra hcor
  obtain ⟨s1,s2,s3,s4⟩:=ra hcor'
  have c1:=(hcor.best (pointV_p x) k.p k.off le hw).2.1
  have c2:=(hcor'.best (pointV_p x) k.p k.off le hw).2.2
  rw [r1] at c1
  rw [s1] at c2
  have b1:=c1.close hw r3 r4
  have b2:=c2.close hw s3 s4
  have eA:A*(d+eps w)=A*d+eps w*A:=by grind
  rw [eA]
  show _≤(divV (pointV x) h w).lo.rv∧(divV (pointV x) h w).hi.rv≤_
  rw [e1,e2]
  constructor<;>grind
theorem restW_close{A B c:Rat}(hc:InV h c)(h1:-A≤x.rv)(h2:x.rv≤A)(n1:-B≤(nI h x w:Rat))(n2:(nI h x w:Rat)≤B)(_:d≤1)(he:eps w≤1) :
    x.rv-(nI h x w:Rat)*c-(B*d+eps w*(A+8*B))≤(restW h x w).lo.rv∧(restW h x w).hi.rv≤x.rv-(nI h x w:Rat)*c+(B*d+eps w*(A+8*B)):=by
  have cl:=hc.1
  have ch:=hc.2
  have l:=k.lo
  have hi:=k.hi
  have nr:=k.nar
  have le:=k.le
  have d0:=k.d0
  have e0:=eps_pos w
  have B0:0≤B:=by grind
  have A0:0≤A:=by grind
  have en:(nW h x w).rv=(nI h x w:Rat):=(wholeS_rv nearD_e).symm
  have np:0≤(nW h x w).m:=nearD_p
  obtain ⟨q1,q2⟩:=pointV_rv np
  obtain ⟨p1,p2'⟩:=pointV_rv hx
  obtain ⟨⟨x0,y0,hx0,hy0,g1⟩,⟨x1,y1,hx1,hy1,g2⟩⟩:=prod_at (pointV_p (nW h x w)) k.p
  have x0e:x0=(nI h x w:Rat):=by rcases hx0 with e | e<;>rw [e,←en];exact q1;exact q2
  have x1e:x1=(nI h x w:Rat):=by rcases hx1 with e | e<;>rw [e,←en];exact q1;exact q2
  have yb:∀ y,(y=h.lo.rv∨y=h.hi.rv)→y-c≤d∧c-y≤d∧0≤y∧y≤2:=fun y hy=>by rcases hy with e | e<;>rw [e]<;>exact ⟨by grind,by grind,by grind,by grind⟩
  obtain ⟨a1,a2,a3,a4⟩:=yb y0 hy0
  obtain ⟨b1,b2,b3,b4⟩:=yb y1 hy1
  generalize (nI h x w:Rat)=n at *
  have m0:=mul_bd n1 n2 a1 a2
  have m1:=mul_bd n1 n2 b1 b2
  have by2:∀ y,0≤y→y≤2→-(2*B)≤n*y∧n*y≤2*B:=fun y h0 h2=>by
    have:=mul_bd n1 n2 (a:=y) (b:=0) (d:=2) (by grind) (by grind)
    constructor<;>grind
  have f0:=by2 y0 a3 a4
  have f1:=by2 y1 b3 b4
  rw [x0e] at g1
  rw [x1e] at g2
  obtain ⟨t1,t2⟩:=times_best (v:=pointV (nW h x w)) (u:=h) (p:=w+64) (by omega) (pointV_p _) k.p
  rw [g1] at t1
  rw [g2] at t2
  have u1:=t1.close (by omega) f0.1 f0.2
  have u2:=t2.close (by omega) f1.1 f1.2
  have ee:eps (w+64)≤eps w:=p2_le (by omega)
  have v1:=rmR ee (show 0≤2*B by grind)
  have v2:=rmR he (show 0≤2*B by grind)
  obtain ⟨l1,l2⟩:=less_best (v:=pointV x) (u:=timesV (pointV (nW h x w)) h (w+64)) (pointV_p x) (trimV_p _ _) hw
  rw [p1] at l1
  rw [p2'] at l2
  have k1:=l1.close hw (A:=A+4*B) (by grind) (by grind)
  have k2:=l2.close hw (A:=A+4*B) (by grind) (by grind)
  have eE:B*d+eps w*(A+8*B)=B*d+eps w*(2*B)+eps w*(A+4*B)+eps w*(2*B):=by grind
  have z:=rmN (rlL e0) (show 0≤2*B by grind)
  rw [eE]
  show _≤(restW h x w).lo.rv∧(restW h x w).hi.rv≤_
  unfold restW
  constructor<;>grind
end
theorem p2_1(a:Int):p2 (a+1)=2*p2 a:=two_p2 a
theorem quart_ok{d:Rat}{h:Vx}(k:HfIv d h){x:Dx}(hx:0≤x.m){w:Int}(hw:1≤w)(hw2:w≤16384){A B c:Rat}(hc:InV h c)(h1:-A≤x.rv)(h2:x.rv≤A){m a p:Int}(m1:-B≤(m:Rat))(m2:(m:Rat)≤B)
    (g1:(m:Rat)-1/2+A*(d+eps w)<x.rv*c⁻¹) (g2:x.rv*c⁻¹<(m:Rat)+1/2-A*(d+eps w)) (hd:d≤1) (he:eps w≤1)
    (hr:p2 (a+1)≤x.rv-(m:Rat)*c∨x.rv-(m:Rat)*c≤-(p2 (a+1))) (p0:0≤p) (hE:2*(B*d+eps w*(A+8*B))≤p2 (a-p)) (ha0:a≤0) (ha1:-16384≤a) :
    sureW h x w=true∧nI h x w=m∧rightV (restW h x w)=true∧narrowB (restW h x w) p=true:=by
  have A0:0≤A:=by grind
  have d0:=k.d0
  have ep:=eps_pos w
  have η0:0≤A*(d+eps w):=rmN A0 (by grind)
  obtain ⟨q1,q2⟩:=quoW_close k hx hw hc h1 h2
  obtain ⟨i1,i2⟩:=quoW_in k hx hw hc
  have n1:NearI m (quoW h x w).lo.rv:=⟨by grind,by grind,fun e=>by exfalso;rcases e with e | e<;>grind⟩
  have n2:NearI m (quoW h x w).hi.rv:=⟨by grind,by grind,fun e=>by exfalso;rcases e with e | e<;>grind⟩
  have e1:nI h x w=m:=(nW_near (h:=h) (x:=x) (w:=w)).uniq n1
  have e2:wholeS (nearD (quoW h x w).hi)=m:=(nearD_whole (d:=(quoW h x w).hi) (divV_p _ _ _).2).uniq n2
  have sure:sureW h x w=true:=by
    unfold sureW
    refine eqI_true.2 (cmpD_eq0.2 ?_)
    have:(nW h x w).rv=(nearD (quoW h x w).hi).rv:=nearD_eq.2 (show wholeS (nW h x w)=_ by rw [e2];exact e1)
    exact this
  obtain ⟨r1,r2⟩:=restW_close k hx hw hc h1 h2 (B:=B) (by rw [e1];exact m1) (by rw [e1];exact m2) hd he
  obtain ⟨r3,r4⟩:=rest_in k hx hw hc
  rw [e1] at r1 r2 r3 r4
  have c0:0<c:=by have:=k.lo;have:=hc.1;grind
  have c2:c≤2:=by have:=k.hi;have:=hc.2;grind
  have xc:x.rv=x.rv*c⁻¹*c:=by rw [Rat.mul_assoc,Rat.inv_mul_cancel c (by grind),Rat.mul_one]
  have up:x.rv-(m:Rat)*c≤1∧-1≤x.rv-(m:Rat)*c:=by
    have a1:=rmR (show x.rv*c⁻¹-(m:Rat)≤1/2 by grind) (rlL c0)
    have a2:=rmR (show -(1/2)≤x.rv*c⁻¹-(m:Rat) by grind) (rlL c0)
    have e:(x.rv*c⁻¹-(m:Rat))*c=x.rv-(m:Rat)*c:=by
      conv=>rhs;rw [xc]
      grind
    rw [e] at a1 a2
    constructor<;>grind
  generalize hEE:B*d+eps w*(A+8*B)=E at *
  generalize x.rv-(m:Rat)*c=ρ at *
  have pa:p2 (a-p)≤p2 a:=p2_le (by omega)
  have pa1:p2 a≤1:=by have:=p2_le ha0;rwa [p2_zero] at this
  have pp:=p2_pos (a-p)
  rw [p2_1] at hr
  have E1:2*E≤p2 a:=by grind
  have hP:(restW h x w).P:=⟨cutD_p,cutD_p⟩
  have F:OneF (restW h x w).lo∧OneF (restW h x w).hi:=⟨cutD_f plusD_p,cutD_f plusD_p⟩
  obtain ⟨l1,l2⟩:=less_best (v:=pointV x) (u:=timesV (pointV (nW h x w)) h (w+64)) (pointV_p x) (trimV_p _ _) hw
  have R1:Rp w (restW h x w).lo.rv:=l1.1
  have R2:Rp w (restW h x w).hi.rv:=l2.1
  have p21:p2 1=2:=p2_one
  have fits:∀ {y:Dx},OneF y→Rp w y.rv→(p2 a≤y.rv∧y.rv≤2∨y.rv≤-(p2 a)∧-2≤y.rv)→y.fitsB=true:=fun {y} f r b=>by
    have am:=rv_amt f.p
    have q:=p2_pos a
    rcases b with b | b
    · have e:=am.1 (by grind)
      exact fits_rp f (A:=a) (B:=1) r (by omega) (fun _=>by rw [←e];exact b.1) (by rw [←e,p21];exact b.2) (by omega) (by omega)
    · have e:=am.2 (by grind)
      exact fits_rp f (A:=a) (B:=1) r (by omega) (fun _=>by rw [←e];grind) (by rw [←e,p21];grind) (by omega) (by omega)
  have le:(restW h x w).lo.rv≤(restW h x w).hi.rv:=by grind
  have np:p2 (a-p)=p2 (-p)*p2 a:=by rw [←p2_add];congr 1;omega
  have qa:=p2_pos a
  have qp:=p2_pos (-p)
  rcases hr with hr | hr
  · have f1:=fits F.1 R1 (.inl ⟨by grind,by grind⟩)
    have f2:=fits F.2 R2 (.inl ⟨by grind,by grind⟩)
    have hR:=right_of f1 f2 le
    refine ⟨sure,e1,hR,narrow_of hP hR p0 (δ:=p2 (-p)) (L:=p2 a) (H:=2) (.inl ⟨qa,by grind,by grind,by grind,le,?_⟩) Rat.le_refl⟩
    have m:=rmL (show p2 a≤(restW h x w).lo.rv by grind) (rlL qp)
    grind
  · have f1:=fits F.1 R1 (.inr ⟨by grind,by grind⟩)
    have f2:=fits F.2 R2 (.inr ⟨by grind,by grind⟩)
    have hR:=right_of f1 f2 le
    refine ⟨sure,e1,hR,narrow_of hP hR p0 (δ:=p2 (-p)) (L:=p2 a) (H:=2) (.inr ⟨qa,by grind,by grind,by grind,by grind,?_⟩) Rat.le_refl⟩
    have m:=rmL (show p2 a≤-(restW h x w).hi.rv by grind) (rlL qp)
    grind
def wsK:Nat→Int→List Int
  | 0,_=>[]
  | k+1,n=>if 0<n then (n % 18446744073709551616) :: wsK k (n/18446744073709551616) else []
theorem wsK_eq:∀ {k:Nat} {n:Int},n<2^k→ws n=wsK k n
  | 0,n,h=>by rw [ws_nonpos (by simp at h;omega)];rfl
  | k+1,n,h=>by
    unfold wsK
    by_cases hp:0<n
    · have p:=two_pow_pos k
      rw [Int.pow_succ] at h
      rw [ws_pos hp,if_pos hp,wsK_eq (k:=k) (by omega)]
    · rw [ws_nonpos (by omega),if_neg hp]
theorem ws_K(n:Int):ws n=wsK (blen n) n:=wsK_eq (blen_lt n)
def tzK:Nat→Nat→Nat
  | 0,_=>0
  | k+1,n=>if n=0 then 0 else if n % 2=1 then 0 else tzK k (n/2)+1
theorem tzK_eq:∀ {k n:Nat},n<2^k→tzn n=tzK k n
  | 0,n,h=>by
    obtain rfl:n=0:=by simp at h;omega
    unfold tzn tzK;rfl
  | k+1,n,h=>by
    rw [Nat.pow_succ] at h
    unfold tzK;rw [tzn,tzK_eq (k:=k) (n:=n/2) (by omega)]
theorem tz_K{n:Int}:tz n=tzK (blen n) n.toNat:=by
  unfold tz
  refine tzK_eq ?_
  have h:=blen_lt n
  by_cases h0:0≤n
  · have:(n.toNat:Int)<((2^blen n:Nat):Int):=by rw [Int.toNat_of_nonneg h0];simpa using h
    exact_mod_cast this
  · rw [Int.toNat_of_nonpos (by omega)];exact Nat.two_pow_pos _
def mkDK(neg:Bool)(m e:Int):Dx:=if m=0 then ⟨false,[],0⟩ else
  let t:=tzK (blen m) m.toNat
  let q:=m/2^t
  ⟨neg,wsK (blen q) q,e+t⟩
theorem mkD_K(neg:Bool)(m e:Int):mkD neg m e=mkDK neg m e:=by
  unfold mkD mkDK;rw [tz_K,ws_K]
def fitsK(d:Dx):Bool:=decide ((wsK (blen d.m) d.m).length≤1024) && decide (-32768≤d.e) && decide (d.e≤32768)
def rightK(v:Vx):Bool:=fitsK v.lo && (fitsK v.hi && decide (cmpD v.lo v.hi≤0))
theorem great_K(m:Int):(!greatB m)=decide ((wsK (blen m) m).length≤1024):=by
  unfold greatB;rw [←ws_K]
  by_cases h:(ws m).length≤1024
  · rw [decide_eq_true h,decide_eq_false (by omega)];rfl
  · rw [decide_eq_false h,decide_eq_true (by omega)];rfl
theorem fits_K(d:Dx):d.fitsB=fitsK d:=by unfold Dx.fitsB fitsK;rw [great_K]
theorem right_K(v:Vx):rightV v=rightK v:=by unfold rightV rightK;rw [fits_K,fits_K]
theorem lit_f{k e:Int}(k0:0<k)(k1:k<18446744073709551616)(h:k % 2=1):OneF ⟨false,[k],e⟩:=by
  refine ⟨false,k,e,by omega,?_⟩
  unfold mkD
  rw [if_neg (by omega),tz_odd2 h (by omega),show k/2^0=k by simp,ws_pos k0,show k/18446744073709551616=0 by omega,ws_zero,Int.emod_eq_of_lt (by omega) k1]
  simp
theorem lit_rv{k e:Int}:(⟨false,[k],e⟩:Dx).rv=(k:Rat)*p2 e:=by
  have:(⟨false,[k],e⟩:Dx).sm=k:=by show val [k]=k;rw [val_cons];simp [val]
  unfold Dx.rv;rw [this]
theorem p2_v:p2 0=1∧p2 1=2∧p2 (-1)=1/2∧p2 (-2)=1/4:=by decide +kernel
theorem HfIv.mid{d:Rat}{h:Vx}(k:HfIv d h):∃ c,InV h c∧31415/20000≤c∧c≤31417/20000:=by
  have m1:=k.enc.meets piS_enc
  have m2:=piS_enc.meets k.enc
  have le:=k.le
  rcases (show (31415:Rat)/20000≤h.lo.rv∨h.lo.rv≤31415/20000 by grind) with c | c
  · exact ⟨h.lo.rv,⟨Rat.le_refl,le⟩,c,by grind⟩
  · exact ⟨31415/20000,⟨c,by grind⟩,Rat.le_refl,by decide +kernel⟩
theorem okW_of{x:Dx}{p w:Int}(h1:sureW (halfP w) x w=true)(h2:rightV (restW (halfP w) x w)=true)(h3:narrowB (restW (halfP w) x w) p=true) :
    okW x p w=true∧tryP x p w=(by4I (nW (halfP w) x w),restW (halfP w) x w,true):=by
  have n:narrowV (restW (halfP w) x w) p=true:=by
    rw [narrowB,Bool.and_eq_true,Bool.and_eq_true] at h3;exact h3.2.2
  have e:tryP x p w=(by4I (nW (halfP w) x w),restW (halfP w) x w,true):=by unfold tryP tryW;rw [if_pos h1,n]
  exact ⟨by unfold okW;rw [e,h2];rfl,e⟩
def xVVb(f:Vx→Vx→Bool):Spec:=specK [.v,.v] fun (v:Vx) (u:Vx)=>(none,bT (f v u))
def xVIb(f:Vx→Int→Bool):Spec:=specK [.v,.i .i64] fun (v:Vx) (p:Int)=>(none,bT (f v p))
def xDDi(f:Dx→Dx→Int):Spec:=specK [.d,.d] fun (a:Dx) (b:Dx)=>(some (a.Sm 34359738368∧b.Sm 34359738368),iT (f a b))
def wTrue:Spec:=specK [] (none,bT true)
theorem sameD_refl(d:Dx):sameD d d=true:=by simp [sameD,eqI]
theorem sameV_refl(v:Vx):sameV v v=true:=by rw [sameV,sameD_refl,sameD_refl];rfl
theorem zero_rv:(⟨false,[],0⟩:Dx).rv=0:=rv_zero rfl
theorem cutD_zero(p:Int)(up:Bool)(hp:0≤p):cutD ⟨false,[],0⟩ p up=⟨false,[],0⟩:=by
  have o:oneD ⟨false,[],0⟩=⟨false,[],0⟩:=(oneD_f (Int.le_refl _)).zero (zeroB_true.1 ((zeroB_rv oneD_p).2 ((rv_one (Int.le_refl _)).trans zero_rv)))
  unfold cutD cutX
  rw [o,if_pos (by
    have:(blen (⟨false,[],0⟩:Dx).m:Int)=0:=by rw [show (⟨false,[],0⟩:Dx).m=0 from rfl];rfl
    omega)]
theorem trim_zero(p:Int)(hp:0≤p):trimV zeroIv p=zeroIv:=by
  show (⟨cutD ⟨false,[],0⟩ p false,cutD ⟨false,[],0⟩ p true⟩:Vx)=zeroIv
  rw [cutD_zero _ _ hp,cutD_zero _ _ hp];rfl
theorem zero_right:rightV zeroIv=true:=by rw [right_K];decide
theorem chk_of{d:Dx}(h:d.fitsB=true):chkD d=0:=by rw [chkD,if_pos h]
theorem fault_of{t:Dx}{p:Int}(ht:0≤t.m)(hf:t.fitsB=true)(h:small1 t)(p0:8≤p)(p1:p≤4096):faultD t p=0:=by
  rw [faultD,if_pos ⟨chk_of hf,p0,p1⟩,if_neg]
  intro k
  rw [cmpD_gt0,rv_int 1,rv_abs ht] at k
  have a:=rv_amt ht
  rcases (show 0≤t.rv∨t.rv≤0 by grind) with c | c
  · have:=a.1 c;have:=h.1;grind
  · have:=a.2 c;have:=h.2;grind
theorem small_fits{n:Int}(h:n.natAbs≤16):(mkS n 0).fitsB=true:=fits_mk (N:=5) (by omega) (blen_le (by omega)) (by omega) (by omega) (by omega) (by omega)
theorem le_eq{a b:Rat}(h:a=b):a≤b:=h ▸ Rat.le_refl
theorem fits_neg{d:Dx}(h:OneF d)(f:d.fitsB=true):(negD d).fitsB=true:=by
  by_cases hz:d.m=0
  · rw [h.zero hz];decide +kernel
  · have t0:=tz_odd2 (h.odd hz) h.p
    have e1:(negD d).m=d.m:=by unfold negD;rw [mkD_m h.p,t0];simp
    have e2:(negD d).e=d.e:=by unfold negD mkD;rw [if_neg hz,t0];simp
    unfold Dx.fitsB at f ⊢
    rw [e1,e2];exact f
def OneV(v:Vx):Prop:=OneF v.lo∧OneF v.hi
theorem sinS_bd{t:Rat}(t0:0<t)(t1:t≤1){a b:Rat}(h:Enc (sinS t) a b):a<t∧6*t-t*t*t<6*b:=by
  have x0:0<t*t:=Rat.mul_pos t0 t0
  have x1:t*t≤1:=sqr_le1 t1 (by grind)
  have y0:0<t*t*(t*t):=Rat.mul_pos x0 x0
  have y1:t*t*(t*t)≤t*t:=by have:=rmL x1 (rlL x0);grind
  have z1:t*t*(t*t)*(t*t)≤t*t*(t*t):=by have:=rmL x1 (rlL y0);grind
  have m1:tmf 2 (t*t) 1=t*t/6:=by simp [tmf];grind
  have m2:tmf 2 (t*t) 2=t*t*(t*t)/120:=by rw [tmf,m1];simp;grind
  have m3:tmf 2 (t*t) 3=t*t*(t*t)*(t*t)/5040:=by rw [tmf,m2];simp;grind
  have p02:parS 0 2 (t*t) 2=1:=by simp [parS,sumTo,tmf];grind
  have p12:parS 1 2 (t*t) 2=t*t/6:=by simp [parS,sumTo,m1];grind
  have p03:parS 0 2 (t*t) 3=1+t*t*(t*t)/120:=by simp [parS,sumTo,m1,m2];simp [tmf];grind
  have p13:parS 1 2 (t*t) 3=t*t/6:=by simp [parS,sumTo,m1,m2];grind
  have e1:=altS_enc (f:=2) (by omega) (rlL x0) x1 (K:=2) (r:=t*t*(t*t)/110) (by omega) (le_eq p02.symm) (le_eq p02) (le_eq p12.symm) (le_eq p12) (by rw [m2];grind)
  have e2:=altS_enc (f:=2) (by omega) (rlL x0) x1 (K:=3) (r:=t*t*(t*t)*(t*t)/4620) (by omega) (le_eq p03.symm) (le_eq p03) (le_eq p13.symm) (le_eq p13) (by rw [m3];grind)
  rw [sin_seq] at h
  have mul:∀ {a b:Rat},Enc (altS 2 (t*t)) a b→Enc (fun n=>t*altS 2 (t*t) n) (t*a) (t*b):=fun {a b} k=>by
    have l:=rmL k.self (rlL t0)
    refine Enc.mul (Enc.const t) k ?_
    rintro x y (rfl | rfl) (rfl | rfl)<;>exact ⟨by grind,by grind⟩
  have u:=h.meets (mul e1)
  have w:=(mul e2).meets h
  have q1:=Rat.mul_pos t0 (show 0<t*t/6-t*t*(t*t)/110 by grind)
  have q2:=Rat.mul_pos t0 (show 0<t*t*(t*t)/120-t*t*(t*t)*(t*t)/4620 by grind)
  exact ⟨by grind,by grind⟩
theorem cosS_bd{t:Rat}(t0:-1≤t)(t1:t≤1){a b:Rat}(h:Enc (cosS t) a b):a≤1∧1-t*t/2≤b:=by
  have x0:0≤t*t:=sqr_nonneg t
  have x1:t*t≤1:=sqr_le1 t1 t0
  have y0:0≤t*t*(t*t):=rmN x0 x0
  have y1:t*t*(t*t)≤t*t:=by have:=rmL x1 x0;grind
  have z1:t*t*(t*t)*(t*t)≤t*t*(t*t):=by have:=rmL x1 y0;grind
  have m1:tmf 1 (t*t) 1=t*t/2:=by simp [tmf];grind
  have m2:tmf 1 (t*t) 2=t*t*(t*t)/24:=by rw [tmf,m1];simp;grind
  have m3:tmf 1 (t*t) 3=t*t*(t*t)*(t*t)/720:=by rw [tmf,m2];simp;grind
  have p02:parS 0 1 (t*t) 2=1:=by simp [parS,sumTo,tmf];grind
  have p12:parS 1 1 (t*t) 2=t*t/2:=by simp [parS,sumTo,m1];grind
  have p03:parS 0 1 (t*t) 3=1+t*t*(t*t)/24:=by simp [parS,sumTo,m1,m2];simp [tmf];grind
  have p13:parS 1 1 (t*t) 3=t*t/2:=by simp [parS,sumTo,m1,m2];grind
  have e1:=altS_enc (f:=1) (by omega) x0 x1 (K:=2) (r:=t*t*(t*t)/22) (by omega) (le_eq p02.symm) (le_eq p02) (le_eq p12.symm) (le_eq p12) (by rw [m2];grind)
  have e2:=altS_enc (f:=1) (by omega) x0 x1 (K:=3) (r:=t*t*(t*t)*(t*t)/660) (by omega) (le_eq p03.symm) (le_eq p03) (le_eq p13.symm) (le_eq p13) (by rw [m3];grind)
  rw [cos_seq] at h
  have u:=h.meets e1
  have w:=e2.meets h
  exact ⟨by grind,by grind⟩
theorem quarL_spec{x:Dx}{p:Int}:∀ (n:Nat) (w:Int),8≤w→quarL x p n w=(0,zeroIv,6)∨∃ w',8≤w'∧w'≤8192∧okW x p w'=true∧quarL x p n w=((tryP x p w').1,(tryP x p w').2.1,0)
  | 0,_,_=>.inl rfl
  | n+1,w,hw=>by
    rw [quarL]
    split
    · rename_i h
      exact .inr ⟨min w 8192,by omega,by omega,h,rfl⟩
    · split
      · exact .inl rfl
      · exact quarL_spec n (2*min w 8192) (by omega)
theorem okW_parts{x:Dx}{p w:Int}(h:okW x p w=true):sureW (halfP w) x w=true∧rightV (restW (halfP w) x w)=true∧narrowV (restW (halfP w) x w) p=true∧tryP x p w=(by4I (nW (halfP w) x w),restW (halfP w) x w,true):=by
  unfold okW at h
  rw [Bool.and_eq_true] at h
  unfold tryP tryW at h ⊢
  by_cases hs:sureW (halfP w) x w=true
  · rw [if_pos hs] at h ⊢
    exact ⟨hs,h.2,h.1,by rw [show narrowV (restW (halfP w) x w) p=true from h.1]⟩
  · rw [if_neg hs] at h
    cases h.1
def condQ(x:Dx)(p:Int):Prop:=x.fitsB=true∧8≤p∧p≤3968
structure QuE (y:Dx) (p:Int) (Q:Int×Vx×Int) (w:Int):Prop where
  w0:8≤w
  w1:w≤8192
  sure:sureW (halfP w) y w=true
  right:rightV (restW (halfP w) y w)=true
  nar:narrowV (restW (halfP w) y w) p=true
  eq:Q=(by4I (nW (halfP w) y w),restW (halfP w) y w,0)
theorem quar_cases(x:Dx)(p:Int):(¬ condQ x p∧quarR x p=(0,zeroIv,2))∨(condQ x p∧(oneD x).m=0∧quarR x p=(0,zeroIv,0))∨(condQ x p∧(oneD x).m≠0∧1024≤topD (oneD x)∧quarR x p=(0,zeroIv,3)) ∨
    (condQ x p∧(oneD x).m≠0∧topD (oneD x)<1024∧quarR x p=(0,zeroIv,6))∨(condQ x p∧(oneD x).m≠0∧topD (oneD x)<1024∧∃ w,QuE (oneD x) p (quarR x p) w):=by
  by_cases c:condQ x p
  · have e:quarR x p=(if (oneD x).m=0 then (0,zeroIv,0) else if 1024≤topD (oneD x) then (0,zeroIv,3) else quarL (oneD x) p 9 (max (topD (oneD x)) 0+p+64)):=if_pos c
    by_cases z:(oneD x).m=0
    · exact .inr (.inl ⟨c,z,by rw [e,if_pos z]⟩)
    · by_cases t:1024≤topD (oneD x)
      · exact .inr (.inr (.inl ⟨c,z,t,by rw [e,if_neg z,if_pos t]⟩))
      · rw [if_neg z,if_neg t] at e
        have cp:=c.2.1
        rcases quarL_spec (x:=oneD x) (p:=p) 9 (max (topD (oneD x)) 0+p+64) (by omega) with h | ⟨w,w0,w1,ok,h⟩
        · exact .inr (.inr (.inr (.inl ⟨c,z,by omega,by rw [e,h]⟩)))
        · obtain ⟨o1,o2,o3,o4⟩:=okW_parts ok
          rw [o4] at h
          exact .inr (.inr (.inr (.inr ⟨c,z,by omega,w,⟨w0,w1,o1,o2,o3,by rw [e,h]⟩⟩)))
  · exact .inl ⟨c,if_neg c⟩
def piN:Nat:=3982441812995697363688351113952
theorem at5_enc2:Enc (sgnS true (atT 5)) (parG 0 (atT 5) 24-(parG 1 (atT 5) 24+12/11*atT 5 24)) (parG 0 (atT 5) 24+12/11*atT 5 24-parG 1 (atT 5) 24) :=
  altG_enc (r:=atT 5) (atT_nonneg (by omega)) (atT_fall (by omega)) (K:=24) (q:=12/11*atT 5 24) Rat.le_refl Rat.le_refl Rat.le_refl Rat.le_refl (by grind)
theorem at239_enc2:Enc (sgnS true (atT 239)) (parG 0 (atT 239) 8-(parG 1 (atT 239) 8+12/11*atT 239 8)) (parG 0 (atT 239) 8+12/11*atT 239 8-parG 1 (atT 239) 8) :=
  altG_enc (r:=atT 239) (atT_nonneg (by omega)) (atT_fall (by omega)) (K:=8) (q:=12/11*atT 239 8) Rat.le_refl Rat.le_refl Rat.le_refl Rat.le_refl (by grind)
theorem piS_enc2:Enc piS (((piN:Int)-1:Int)*p2 (-100)) (((piN:Int)+2:Int)*p2 (-100)) :=
  ((at5_enc2.scale (c:=16) (by decide)).add ((at239_enc2.scale (c:=4) (by decide)).neg)).wide (by decide +kernel) (by decide +kernel)
theorem half_100{w:Int}(w0:128≤w)(w1:w≤16384){c:Rat}(hc:InV (halfP w) c):(((piN:Int)-2:Int):Rat)*p2 (-100)≤2*c∧2*c≤(((piN:Int)+3:Int):Rat)*p2 (-100):=by
  have k:=halfP_hf (w:=w) (by omega) (by omega)
  have m1:=k.enc.meets piS_enc2
  have m2:=piS_enc2.meets k.enc
  have nr:=k.nar
  have d1:p2 (-3-w)≤p2 (-100):=p2_le (by omega)
  have q:=p2_pos (-100)
  obtain ⟨c1,c2⟩:=hc
  have e1:(((piN:Int)-2:Int):Rat)=(((piN:Int)-1:Int):Rat)-1:=by rw [←show ((1:Int):Rat)=1 from rfl,←Rat.intCast_sub];congr 1
  have e2:(((piN:Int)+3:Int):Rat)=(((piN:Int)+2:Int):Rat)+1:=by rw [←show ((1:Int):Rat)=1 from rfl,←rcA];congr 1
  rw [e1,e2]
  generalize (((piN:Int)-1:Int):Rat)=a at *
  generalize (((piN:Int)+2:Int):Rat)=b at *
  generalize p2 (-100)=P at *
  constructor<;>grind
theorem quarL_dec{x:Dx}{p:Int}(ok:okW x p 8192=true):∀ (n:Nat) (w:Int),8≤w→8192≤w*2^n→∃ w',8≤w'∧w'≤8192∧okW x p w'=true∧quarL x p (n+1) w=((tryP x p w').1,(tryP x p w').2.1,0)
  | n,w,hw,hn=>by
    rw [quarL]
    split
    · rename_i h
      exact ⟨min w 8192,by omega,by omega,h,rfl⟩
    · rename_i h
      split
      · rename_i h8
        rw [h8] at h;exact absurd ok h
      · rename_i h8
        have hm:min w 8192=w:=by omega
        cases n with
        | zero=>rw [Int.pow_zero] at hn;omega
        | succ n =>
          rw [hm]
          refine quarL_dec ok n (2*w) (by omega) ?_
          rw [Int.pow_succ,Int.mul_comm (2^n) 2,←Int.mul_assoc,Int.mul_comm w 2] at hn;exact hn
theorem quar_dec{x:Dx}{p:Int}(c:condQ x p)(z:(oneD x).m≠0)(t:topD (oneD x)<1024)(ok:okW (oneD x) p 8192=true):∃ w,QuE (oneD x) p (quarR x p) w:=by
  have e:quarR x p=quarL (oneD x) p 9 (max (topD (oneD x)) 0+p+64):=by
    have:quarR x p=(if (oneD x).m=0 then (0,zeroIv,0) else if 1024≤topD (oneD x) then (0,zeroIv,3) else quarL (oneD x) p 9 (max (topD (oneD x)) 0+p+64)):=if_pos c
    rw [this,if_neg z,if_neg (by omega)]
  have cp:=c.2.1
  obtain ⟨w,w0,w1,ok',h⟩:=quarL_dec ok 8 (max (topD (oneD x)) 0+p+64) (by omega) (by omega)
  obtain ⟨o1,o2,o3,o4⟩:=okW_parts ok'
  rw [o4] at h
  exact ⟨w,⟨w0,w1,o1,o2,o3,by rw [e];exact h⟩⟩
noncomputable abbrev cpW (w:World) (neg:Bool) (s:Value) (e:Int):World:=((w.alloc (.cells #[.bool neg,s,.int .i64 e] 27)).alloc (.cells #[.bool false,.slice none 0 0,.int .i64 0] 27)).alloc (.cells #[] 23)
def lstD:Dx:=⟨false,ws 1,-2048⟩
def eigV(w:Int):Vx:=scaleV (refPi w) (-2)
def eigH:Vx:=eigV 3328
def hardB(x:Dx):Bool:=!x.zeroB && (ltI (cmpD (restW eigH x 3328).lo lstD) 0 && ltI (cmpD (negD lstD) (restW eigH x 3328).hi) 0)
def enclB(v u:Vx)(p:Int):Bool:=rightV v && (sameV v (canonV v) && (narrowB v p && (leI (cmpD v.lo u.hi) 0 && leI (cmpD u.lo v.hi) 0)))
structure EiIv (d:Rat) (h:Vx):Prop where
  p:h.P
  enc:Enc piS (4*h.lo.rv) (4*h.hi.rv)
  lo:3/4≤h.lo.rv
  hi:h.hi.rv≤1
  nar:h.hi.rv≤h.lo.rv+d
theorem EiIv.le{d:Rat}{h:Vx}(k:EiIv d h):h.lo.rv≤h.hi.rv:=by have:=k.enc.self;grind
theorem EiIv.off{d:Rat}{h:Vx}(k:EiIv d h):Off0 h:=.inl (by have:=k.lo;grind)
theorem eigV_ends(w:Int):(eigV w).lo=shiftD (refPi w).lo (-2)∧(eigV w).hi=shiftD (refPi w).hi (-2):=⟨rfl,rfl⟩
theorem refH_ends(w:Int):(refH w).lo=shiftD (refPi w).lo (-1)∧(refH w).hi=shiftD (refPi w).hi (-1):=⟨rfl,rfl⟩
theorem eigV_iv{w:Int}(w0:64≤w)(w1:w≤65000):EiIv (p2 (23-w)/4) (eigV w):=by
  have h:=refPi_iv (w:=w) (by omega) (by omega)
  have r1:(eigV w).lo.rv=(refPi w).lo.rv*(1/4):=by rw [←p2_v.2.2.2,(eigV_ends w).1];exact rv_shift h.p.1
  have r2:(eigV w).hi.rv=(refPi w).hi.rv*(1/4):=by rw [←p2_v.2.2.2,(eigV_ends w).2];exact rv_shift h.p.2
  have l:=h.lo
  have k:=h.hi
  have n:=h.nar
  have e1:4*(eigV w).lo.rv=(refPi w).lo.rv:=by rw [r1];grind
  have e2:4*(eigV w).hi.rv=(refPi w).hi.rv:=by rw [r2];grind
  exact ⟨⟨shiftD_p,shiftD_p⟩,by rw [e1,e2];exact h.enc,by grind,by grind,by grind⟩
theorem eigH_iv:EiIv (p2 (23-3328)/4) eigH:=eigV_iv (by decide) (by decide)
theorem inv_le4{c:Rat}(h:3/4≤c):0<c⁻¹∧c⁻¹≤4/3:=by
  have hc:0<c:=by grind
  have p:=Rat.inv_pos.2 hc
  have e:=Rat.inv_mul_cancel c (by grind)
  have m:=rmL h (rlL p)
  exact ⟨p,by grind⟩
theorem inv_close4{a b d:Rat}(ha:3/4≤a)(hb:3/4≤b)(h1:a-b≤d)(h2:b-a≤d):a⁻¹-b⁻¹≤2*d∧b⁻¹-a⁻¹≤2*d:=by
  obtain ⟨a0,a1⟩:=inv_le4 ha
  obtain ⟨b0,b1⟩:=inv_le4 hb
  have ea:=Rat.inv_mul_cancel a (by grind)
  have eb:=Rat.inv_mul_cancel b (by grind)
  have d0:0≤d:=by grind
  have p0:=rmN (rlL a0) (rlL b0)
  have p1:a⁻¹*b⁻¹≤2:=by
    have:=rmL (show b⁻¹≤4/3 by grind) (rlL a0)
    grind
  have e1:a⁻¹-b⁻¹=(a⁻¹*b⁻¹)*(b-a):=by
    have x1:(a⁻¹*b⁻¹)*b=a⁻¹:=by rw [Rat.mul_assoc,eb,Rat.mul_one]
    have x2:(a⁻¹*b⁻¹)*a=b⁻¹:=by rw [Rat.mul_comm a⁻¹,Rat.mul_assoc,ea,Rat.mul_one]
    grind
  have m1:=rmL h2 p0
  have m2:=rmL h1 p0
  have m3:=rmR p1 d0
  constructor<;>grind
theorem eig_close{d:Rat}{h:Vx}(k:EiIv d h){x:Dx}(hx:0≤x.m){w:Int}(hw:1≤w){A c:Rat}(hc:InV h c)(h1:-A≤x.rv)(h2:x.rv≤A) :
    x.rv*c⁻¹-A*(2*d+2*eps w)≤(quoW h x w).lo.rv∧(quoW h x w).lo.rv≤x.rv*c⁻¹+A*(2*d+2*eps w):=by
  have A0:0≤A:=by grind
  have cl:=hc.1
  have ch:=hc.2
  have l:=k.lo
  have nr:=k.nar
  have le:=k.le
  have e0:=eps_pos w
  obtain ⟨⟨a,b,hcor,e1⟩,_⟩:=div_at (pointV x) h w
  obtain ⟨p1,p2'⟩:=pointV_rv hx
  have r1:a.rv=x.rv:=by rcases hcor.1 with e | e<;>rw [e];exact p1;exact p2'
  have hb:3/4≤b.rv∧b.rv-c≤d∧c-b.rv≤d:=by
    rcases hcor.2 with e | e<;>rw [e]<;>exact ⟨by grind,by grind,by grind⟩
  obtain ⟨i1,i2⟩:=inv_close4 hb.1 (show 3/4≤c by grind) hb.2.1 hb.2.2
  obtain ⟨i0,i3⟩:=inv_le4 hb.1
  have mb:=mul_bd h1 h2 i1 i2
  have r34:-(2*A)≤x.rv*b.rv⁻¹∧x.rv*b.rv⁻¹≤2*A:=by
    rcases (show 0≤x.rv∨x.rv≤0 by grind) with s | s
    · have m1:=rmL (show b.rv⁻¹≤2 by grind) s
      have m0:=rmN s (rlL i0)
      constructor<;>grind
    · have m1:=rmL (show b.rv⁻¹≤2 by grind) (show 0≤-x.rv by grind)
      have m0:=rmN (show 0≤-x.rv by grind) (rlL i0)
      constructor<;>grind
  have c1:=(hcor.best (pointV_p x) k.p k.off le hw).2.1
  rw [r1] at c1
  have b1:=c1.close hw r34.1 r34.2
  have z:=rmN A0 (rlL e0)
  have eA:A*(2*d+2*eps w)=A*(2*d)+eps w*(2*A):=by grind
  rw [eA]
  show _≤(divV (pointV x) h w).lo.rv∧(divV (pointV x) h w).lo.rv≤_
  rw [e1]
  constructor<;>grind
theorem rest_any{h:Vx}(hp:h.P){x:Dx}(hx:0≤x.m){w:Int}(hw:1≤w){c:Rat}(hc:InV h c):InV (restW h x w) (x.rv-(nI h x w:Rat)*c):=by
  have en:(nW h x w).rv=(nI h x w:Rat):=(wholeS_rv nearD_e).symm
  have np:0≤(nW h x w).m:=nearD_p
  obtain ⟨a1,a2⟩:=prod_in (pointV_p (nW h x w)) hp (pointV_in np) hc
  rw [en] at a1 a2
  obtain ⟨t1,t2⟩:=times_best (v:=pointV (nW h x w)) (u:=h) (p:=w+64) (by omega) (pointV_p _) hp
  have t1':=t1.2.1
  have t2':=t2.2.1
  obtain ⟨l1,l2⟩:=less_best (v:=pointV x) (u:=timesV (pointV (nW h x w)) h (w+64)) (pointV_p x) (trimV_p _ _) hw
  obtain ⟨p1,p2'⟩:=pointV_rv hx
  have l1':=l1.2.1
  have l2':=l2.2.1
  constructor
  · have:(restW h x w).lo.rv≤(pointV x).lo.rv-(timesV (pointV (nW h x w)) h (w+64)).hi.rv:=l1'
    grind
  · have:(pointV x).hi.rv-(timesV (pointV (nW h x w)) h (w+64)).lo.rv≤(restW h x w).hi.rv:=l2'
    grind
theorem lst_rv:lstD.rv=p2 (-2048):=by
  have:lstD.sm=1:=by
    have e:lstD.m=1:=val_ws_one
    unfold Dx.sm;rw [e];rfl
  unfold Dx.rv;rw [this]
  show ((1:Int):Rat)*p2 (-2048)=_
  have e1:((1:Int):Rat)=1:=rfl
  rw [e1,Rat.one_mul]
theorem lst_p:0≤lstD.m:=by rw [show lstD.m=1 from val_ws_one];decide
theorem soft_far{x:Dx}(hx:0≤x.m)(hx0:x.m≠0)(hs:hardB x=false){A c:Rat}(hA:A*(2*(p2 (23-3328)/4)+2*eps 3328)≤1/100)(h1:-A≤x.rv)(h2:x.rv≤A)(hc:InV eigH c)(_:c≤4/5)(m:Int) :
    p2 (-2048)≤x.rv-(m:Rat)*c∨x.rv-(m:Rat)*c≤-(p2 (-2048)):=by
  have k:=eigH_iv
  have q48:p2 (-2048)≤1/8:=by decide +kernel
  obtain ⟨r1,r2⟩:=rest_any k.p hx (w:=3328) (by decide) hc
  obtain ⟨q1,q2⟩:=eig_close k hx (w:=3328) (by decide) hc h1 h2
  obtain ⟨n1,n2,_⟩:=nW_near (h:=eigH) (x:=x) (w:=3328)
  have c0:3/4≤c:=by have:=k.lo;have:=hc.1;grind
  have cp:0<c:=by grind
  have far:p2 (-2048)≤x.rv-(nI eigH x 3328:Rat)*c∨x.rv-(nI eigH x 3328:Rat)*c≤-(p2 (-2048)):=by
    unfold hardB at hs
    have z:x.zeroB=false:=zeroB_false.2 hx0
    rw [z] at hs
    cases a:ltI (cmpD (restW eigH x 3328).lo lstD) 0 with
    | false =>
      have a:=ltI_false.1 a
      refine .inl ?_
      have:lstD.rv≤(restW eigH x 3328).lo.rv:=by
        rcases cmpD_cases (restW eigH x 3328).lo lstD with ⟨e,b⟩|⟨e,b⟩|⟨e,b⟩
        · omega
        · grind
        · grind
      rw [lst_rv] at this;grind
    | true =>
      rw [a] at hs
      have b:=ltI_false.1 (show ltI (cmpD (negD lstD) (restW eigH x 3328).hi) 0=false by simpa using hs)
      refine .inr ?_
      have:(restW eigH x 3328).hi.rv≤(negD lstD).rv:=by
        rcases cmpD_cases (negD lstD) (restW eigH x 3328).hi with ⟨e,b⟩|⟨e,b⟩|⟨e,b⟩
        · omega
        · grind
        · grind
      rw [rv_neg lst_p,lst_rv] at this;grind
  by_cases hm:m=nI eigH x 3328
  · rw [hm];exact far
  · -- another multiple lies further away
    have xc:x.rv=x.rv*c⁻¹*c:=by rw [Rat.mul_assoc,Rat.inv_mul_cancel c (by grind),Rat.mul_one]
    have d1:x.rv*c⁻¹-(nI eigH x 3328:Rat)≤51/100:=by grind
    have d2:-(51/100)≤x.rv*c⁻¹-(nI eigH x 3328:Rat):=by grind
    have e:x.rv-(m:Rat)*c=(x.rv*c⁻¹-(m:Rat))*c:=by
      conv=>lhs;rw [xc]
      grind
    rw [e]
    rcases (show m+1≤nI eigH x 3328∨nI eigH x 3328+1≤m by omega) with g | g
    · have g:=cast_le.2 g
      rw [rcA] at g
      have e1:((1:Int):Rat)=1:=rfl
      rw [e1] at g
      have:=rmR (show 49/100≤x.rv*c⁻¹-(m:Rat) by grind) (rlL cp)
      exact .inl (by grind)
    · have g:=cast_le.2 g
      rw [rcA] at g
      have e1:((1:Int):Rat)=1:=rfl
      rw [e1] at g
      have:=rmR (show x.rv*c⁻¹-(m:Rat)≤-(49/100) by grind) (rlL cp)
      exact .inr (by grind)
theorem eig_of_half{w:Int}(w0:64≤w)(w1:w≤65000){c:Rat}(hc:InV (refH w) c):InV (eigV w) (c*(1/2)):=by
  have h:=refPi_iv (w:=w) (by omega) (by omega)
  have r1:(eigV w).lo.rv=(refPi w).lo.rv*(1/4):=by rw [←p2_v.2.2.2,(eigV_ends w).1];exact rv_shift h.p.1
  have r2:(eigV w).hi.rv=(refPi w).hi.rv*(1/4):=by rw [←p2_v.2.2.2,(eigV_ends w).2];exact rv_shift h.p.2
  have s1:(refH w).lo.rv=(refPi w).lo.rv*(1/2):=by rw [←p2_v.2.2.1,(refH_ends w).1];exact rv_shift h.p.1
  have s2:(refH w).hi.rv=(refPi w).hi.rv*(1/2):=by rw [←p2_v.2.2.1,(refH_ends w).2];exact rv_shift h.p.2
  obtain ⟨c1,c2⟩:=hc
  rw [s1] at c1
  rw [s2] at c2
  exact ⟨by rw [r1];grind,by rw [r2];grind⟩
theorem soft_ok{x:Dx}(hx:0≤x.m){p:Int}(p0:8≤p)(p1:p≤3968)(z:x.m≠0)(t:topD (oneD x)<1024)(hs:hardB x=false):okW (oneD x) p 8192=true:=by
  have fy:OneF (oneD x):=oneD_f hx
  have ey:(oneD x).rv=x.rv:=rv_one hx
  obtain ⟨t1,t2⟩:=top_lt fy.p t
  rw [ey] at t1 t2
  have hf:=halfP_hf (w:=8192) (by decide) (by decide)
  obtain ⟨c,hc,hc',c1,c2⟩:=hf.common (refH_hf (w:=3328) (by decide) (by decide))
  obtain ⟨g1,g2⟩:=half_100 (w:=8192) (by decide) (by decide) hc
  have num0:(((piN:Int)+3:Int):Rat)*p2 (-100)≤32/10:=by decide +kernel
  have he:=eig_of_half (by decide) (by decide) hc'
  have far:=soft_far hx z hs (A:=p2 (1024:Nat)) (by decide +kernel) (by grind) (by grind) he (by grind)
  obtain ⟨q1,q2⟩:=quoW_close hf fy.p (w:=8192) (by decide) (A:=p2 (1024:Nat)) hc (by rw [ey];grind) (by rw [ey];grind)
  obtain ⟨i1,i2⟩:=quoW_in hf fy.p (w:=8192) (by decide) hc
  obtain ⟨n1,n2,_⟩:=nW_near (h:=halfP 8192) (x:=oneD x) (w:=8192)
  rw [ey] at q1 q2 i1 i2
  have num1:p2 (1024:Nat)*(p2 (-3-8192)/2+eps 8192)≤p2 (-2048)/8:=by decide +kernel
  have num2:2*(p2 (1025:Nat)*(p2 (-3-8192)/2)+eps 8192*(p2 (1024:Nat)+8*p2 (1025:Nat)))≤p2 (-6100):=by decide +kernel
  have num3:p2 (-6100)≤p2 (-2049-p):=p2_le (by omega)
  have num4:p2 (1025:Nat)=2*p2 (1024:Nat):=by decide +kernel
  have num5:1≤p2 (1024:Nat):=by decide +kernel
  have q0:=p2_pos (-2048)
  have q8:p2 (-2048)≤1/8:=by decide +kernel
  have cp:0<c:=by grind
  have ic:=Rat.inv_mul_cancel c (by grind)
  obtain ⟨v0,v1⟩:=inv_le1 c1
  generalize hn:nI (halfP 8192) (oneD x) 8192=n at *
  generalize hη:p2 (1024:Nat)*(p2 (-3-8192)/2+eps 8192)=η at *
  have xe:x.rv=x.rv*c⁻¹*c:=by rw [Rat.mul_assoc,ic,Rat.mul_one]
  have f0:=far (2*n)
  have f1:=far (2*n+1)
  have f2:=far (2*n-1)
  have e2:((2:Int):Rat)=2:=rfl
  have e1:((1:Int):Rat)=1:=rfl
  rw [rcM,e2] at f0
  rw [rcA,rcM,e2,e1] at f1
  rw [Rat.intCast_sub,rcM,e2,e1] at f2
  have b0:x.rv-2*(n:Rat)*(c*(1/2))=x.rv-(n:Rat)*c:=by grind
  have b1:x.rv-(2*(n:Rat)+1)*(c*(1/2))=(x.rv*c⁻¹-(n:Rat)-1/2)*c:=by
    conv=>lhs;rw [xe]
    grind
  have b2:x.rv-(2*(n:Rat)-1)*(c*(1/2))=(x.rv*c⁻¹-(n:Rat)+1/2)*c:=by
    conv=>lhs;rw [xe]
    grind
  rw [b0] at f0
  rw [b1] at f1
  rw [b2] at f2
  generalize hQ:x.rv*c⁻¹=Q at *
  generalize hρ:p2 (-2048)=ρ at *
  have up:Q-(n:Rat)-1/2≤-(ρ/2):=by
    rcases f1 with f | f
    · exfalso
      have:=rmR (show Q-(n:Rat)-1/2≤η by grind) (rlL cp)
      have:=rmL c2 (show 0≤η by grind)
      grind
    · rw [←Rat.not_lt];intro hlt
      have:=Rat.mul_lt_mul_of_pos_right hlt cp
      have:=rmL c2 (show 0≤ρ/2 by grind)
      grind
  have dn:ρ/2≤Q-(n:Rat)+1/2:=by
    rcases f2 with f | f
    · rw [←Rat.not_lt];intro hlt
      have:=Rat.mul_lt_mul_of_pos_right hlt cp
      have:=rmL c2 (show 0≤ρ/2 by grind)
      grind
    · exfalso
      have:=rmN (show 0≤Q-(n:Rat)+1/2 by grind) (rlL cp)
      grind
  have bQ:-(p2 (1024:Nat))≤Q∧Q≤p2 (1024:Nat):=by
    rw [←hQ]
    rcases (show 0≤x.rv∨x.rv≤0 by grind) with s | s
    · have m1:=rmL (show c⁻¹≤1 by grind) s
      have m0:=rmN s (rlL v0)
      constructor<;>grind
    · have m1:=rmL (show c⁻¹≤1 by grind) (show 0≤-x.rv by grind)
      have m0:=rmN (show 0≤-x.rv by grind) (rlL v0)
      constructor<;>grind
  obtain ⟨s1,s2,s3,s4⟩:=quart_ok hf fy.p (w:=8192) (by decide) (by decide) (A:=p2 (1024:Nat)) (B:=p2 (1025:Nat)) hc (by rw [ey];grind) (by rw [ey];grind) (m:=n) (a:=-2049) (p:=p) (by rw [num4];grind) (by rw [num4];grind) (by rw [ey,hQ,hη];grind) (by rw [ey,hQ,hη];grind) (by decide +kernel) (by decide +kernel) (by
    rw [ey,show (-2049:Int)+1 = -2048 by decide,hρ];exact f0) (by omega) (by grind) (by decide) (by decide)
  exact (okW_of s1 s3 s4).1
theorem hquL_spec{x:Dx}{p:Int}:∀ (n:Nat) (w:Int),64≤w→hquL x p n w=(0,zeroIv,6)∨∃ w',64≤w'∧w'≤16384∧(tryH x p w').2.2=true∧hquL x p n w=((tryH x p w').1,(tryH x p w').2.1,0)
  | 0,_,_=>.inl rfl
  | n+1,w,hw=>by
    rw [hquL]
    split
    · split
      · rename_i h1 h2
        exact .inr ⟨w,hw,h1,h2,rfl⟩
      · exact hquL_spec n (2*w) (by omega)
    · exact .inl rfl
theorem tryH_parts{x:Dx}{p w:Int}(h:(tryH x p w).2.2=true):sureW (refH w) x w=true∧narrowB (restW (refH w) x w) p=true∧tryH x p w=(by4I (nW (refH w) x w),restW (refH w) x w,true):=by
  unfold tryH at h ⊢
  by_cases hs:sureW (refH w) x w=true
  · rw [if_pos hs] at h ⊢
    exact ⟨hs,h,by rw [show narrowB (restW (refH w) x w) p=true from h]⟩
  · rw [if_neg hs] at h;cases h
instance condQ_dec (x:Dx) (p:Int):Decidable (condQ x p):=inferInstanceAs (Decidable (_∧_∧_))
theorem faultQ_eq{x:Dx}(hx:0≤x.m)(p:Int):faultQ x p=if condQ x p then (if (oneD x).m≠0∧1024≤topD (oneD x) then 3 else 0) else 2:=by
  have e:(oneD x).m=0↔x.m=0:=mkD_m_zero hx
  unfold faultQ
  by_cases c:condQ x p
  · rw [if_pos c,if_pos (show x.fitsB=true∧8≤p∧p≤3968 from c)]
    by_cases h:x.m≠0∧1024≤topD (oneD x)
    · rw [if_pos h,if_pos ⟨fun k=>h.1 (e.1 k),h.2⟩]
    · rw [if_neg h,if_neg fun k=>h ⟨fun j=>k.1 (e.2 j),k.2⟩]
  · rw [if_neg c,if_neg (show ¬ (x.fitsB=true∧8≤p∧p≤3968) from c)]
theorem sameV_refl2(v:Vx):sameV v v=true:=by rw [sameV,sameD_refl2,sameD_refl2];rfl
inductive QL (x:Dx) (p:Int):Prop where
  | same (c:Int) (h1:quarR x p=(0,zeroIv,c)) (h2:hquR x p=(0,zeroIv,c)) (hc:c≠0∧c≠6)
  | zero (h1:quarR x p=(0,zeroIv,0)) (h2:hquR x p=(0,zeroIv,0)) (p0:0≤p)
  | hard (h1:quarR x p=(0,zeroIv,6)) (h2:(hquR x p).2.2=0∨(hquR x p).2.2=6) (hh:hardB x=true) (hi:inX x) (hq:(hquR x p).2.1.Sm 34359738368)
  | ok (k:Int) (r:Vx) (h1:quarR x p=(k,r,0)) (k0:0≤k) (k1:k<4) (hn:narrowB r p=true) (hr:rightV r=true) (hs:sameV r (canonV r)=true) (h2:(hquR x p).2.2=6∨(hquR x p).2.2=0∧(hquR x p).1=k∧r.lo.rv≤(hquR x p).2.1.hi.rv∧(hquR x p).2.1.lo.rv≤r.hi.rv) (hq:(hquR x p).2.1.Sm 34359738368)
theorem ql(x:Dx)(hx:0≤x.m)(p:Int):QL x p:=by
  have fy:OneF (oneD x):=oneD_f hx
  have ey:(oneD x).rv=x.rv:=rv_one hx
  have em:(oneD x).m=0↔x.m=0:=mkD_m_zero hx
  have fq:=faultQ_eq hx p
  have zsm:zeroIv.Sm 34359738368:=(right_sm (v:=zeroIv) (by rw [right_K];decide +kernel)).mono (by decide)
  have hqc:∀ (c:condQ x p) (z:(oneD x).m≠0) (t:topD (oneD x)<1024),hquR x p=(0,zeroIv,6)∨∃ w,64≤w∧w≤16384∧(tryH x p w).2.2=true∧hquR x p=((tryH x p w).1,(tryH x p w).2.1,0):=fun c z t=>by
    rw [if_pos c,if_neg (by omega)] at fq
    have:=c.2.1
    rw [hquR,if_neg (by rintro (k | k);exact k fq;exact z (em.2 k))]
    exact hquL_spec 9 _ (by omega)
  have smq:∀ (c:condQ x p) (t:topD (oneD x)<1024) (w:Int),64≤w→w≤16384→(restW (refH w) x w).Sm 34359738368:=fun c t w w0 w1=>by
    have cb:=refPi_bd w0 (show w≤65536 by omega)
    have hb:(refH w).Bd (w+65) 8:=Vx.Bd.mono (cb.scale1 (refPi_iv (w:=w) (by omega) (by omega)).p) (by omega) (by omega)
    exact (half_sizes (refH_hf (w:=w) (by omega) (by omega)) (by omega) (by omega) hb hx (inX_of hx c.1 t)).2.2.2.2.2.sm (by omega)
  rcases quar_cases x p with ⟨c,q⟩|⟨c,z,q⟩|⟨c,z,t,q⟩|⟨c,z,t,q⟩|⟨c,z,t,w,q⟩
  · rw [if_neg c] at fq
    exact .same 2 q (by rw [hquR,if_pos (.inl (by rw [fq];decide)),fq]) (by decide)
  · rw [if_pos c,if_neg fun k=>k.1 z] at fq
    exact .zero q (by rw [hquR,if_pos (.inr (em.1 z)),fq]) (by have:=c.2.1;omega)
  · rw [if_pos c,if_pos ⟨z,t⟩] at fq
    exact .same 3 q (by rw [hquR,if_pos (.inl (by rw [fq];decide)),fq]) (by decide)
  · refine .hard q ?_ ?_ (inX_of hx c.1 t) ?_
    · rcases hqc c z t with h | ⟨w,_,_,_,h⟩<;>rw [h]
      · exact .inr rfl
      · exact .inl rfl
    · cases hh:hardB x with
      | true=>rfl
      | false =>
        have ok:=soft_ok hx c.2.1 c.2.2 (fun k=>z (em.2 k)) t hh
        obtain ⟨w,qe⟩:=quar_dec c z t ok
        have:=qe.eq
        rw [q] at this
        have:=congrArg (fun r=>r.2.2) this
        cases this
    · rcases hqc c z t with h | ⟨w,w0,w1,k,h⟩
      · rw [h];exact zsm
      · rw [h,(tryH_parts k).2.2];exact smq c t w w0 w1
  · have rF:OneF (restW (halfP w) (oneD x) w).lo∧OneF (restW (halfP w) (oneD x) w).hi:=⟨cutD_f plusD_p,cutD_f plusD_p⟩
    have hs:sameV (restW (halfP w) (oneD x) w) (canonV (restW (halfP w) (oneD x) w))=true:=by
      have:canonV (restW (halfP w) (oneD x) w)=restW (halfP w) (oneD x) w:=by
        show (⟨oneD _,oneD _⟩:Vx)=_
        rw [oneD_id rF.1,oneD_id rF.2]
      rw [this,sameV_refl2]
    have nb:narrowB (restW (halfP w) (oneD x) w) p=true:=by
      have:=c.2.1
      rw [narrowB,q.right,q.nar,show leI 0 p=true from leI_true.2 (by omega)];rfl
    have b4:0≤nI (halfP w) (oneD x) w % 4∧nI (halfP w) (oneD x) w % 4<4:=by omega
    refine .ok _ _ q.eq b4.1 b4.2 nb q.right hs ?_ ?_
    · rcases hqc c z t with h | ⟨w',w0,w1,k,h⟩
      · rw [h];exact .inl rfl
      · obtain ⟨k1,k2,k3⟩:=tryH_parts k
        have hf:=halfP_hf q.w0 (show w≤65000 by have:=q.w1;omega)
        have hf':=refH_hf (w:=w') (by omega) (by omega)
        obtain ⟨cc,dc,dc',_,_⟩:=hf.common hf'
        have w1':1≤w:=by have:=q.w0;omega
        have n1:=sure_near hf fy.p w1' q.sure dc
        have n2:=sure_near hf' hx (show 1≤w' by omega) k1 dc'
        rw [ey] at n1
        have en:=n1.uniq n2
        have r1:=rest_in hf fy.p w1' dc
        have r2:=rest_in hf' hx (show 1≤w' by omega) dc'
        rw [ey,en] at r1
        rw [h,k3]
        refine .inr ⟨rfl,?_,?_,?_⟩
        · show nI (refH w') x w' % 4=nI (halfP w) (oneD x) w % 4
          rw [en]
        · have:=r1.1;have:=r2.2;grind
        · have:=r1.2;have:=r2.1;grind
    · rcases hqc c z t with h | ⟨w',w0,w1,k,h⟩
      · rw [h];exact zsm
      · rw [h,(tryH_parts k).2.2];exact smq c t w' w0 w1
def xVVIv(f:Vx→Vx→Int→Vx):Spec:=specK [.v,.v,.i .i64] fun (v:Vx) (u:Vx) (p:Int)=>(some (v.Sm 268435456∧u.Sm 268435456∧0≤p∧p≤1099511627776),vT (f v u p))
theorem plusV_sm{v u:Vx}{N:Nat}{p:Int}(hv:v.P)(hu:u.P)(sv:v.Sm N)(su:u.Sm N)(hp:0≤p):(plusV v u p).Sm (48*N+7) :=
  (trimV_sm (N:=8*N+1) ⟨plusD_p,plusD_p⟩ ⟨plusD_sm hv.1 hu.1 sv.1 su.1,plusD_sm hv.2 hu.2 sv.2 su.2⟩ hp).mono (by omega)
theorem alt_sum_ge{D:Nat→Rat}(h0:∀ k,0≤D k)(h:∀ k,2*D (k+1)≤D k):∀ n,D n≤sumTo (fun k=>alt k*D k) (n+1)
  | 0=>by
    show D 0≤0+alt 0*D 0
    rw [show alt 0=1 from rfl];grind
  | n+1=>by
    have a:=alt_sum_ge h0 h n
    have c:=h0 n
    have b:=h n
    show D (n+1)≤sumTo (fun k=>alt k*D k) (n+1)+alt (n+1)*D (n+1)
    rcases alt_one (n+1) with e | e<;>rw [e]<;>grind
theorem alt_sum_nonneg{D:Nat→Rat}(h0:∀ k,0≤D k)(h:∀ k,2*D (k+1)≤D k):∀ n,0≤sumTo (fun k=>alt k*D k) n
  | 0=>Rat.le_refl
  | n+1=>Rat.le_trans (h0 n) (alt_sum_ge h0 h n)
theorem c_nonneg{c z:Rat}(hc:6≤c)(h:0≤c*z):0≤z:=Rat.not_lt.1 fun k=>by
  have:=Rat.mul_pos (show 0<c by grind) (show 0 < -z by grind)
  grind
structure Pair (c A B:Nat→Rat) (x y:Rat):Prop where
  c6:∀ k,6≤c k
  a1:∀ k,c k*A (k+1)=x*A k
  b1:∀ k,c k*B (k+1)=y*B k
  y0:0≤y
  yx:y≤x
  x1:x≤1
  b0:0≤B 0
  d0:B 0≤A 0
  i:B 0*(x-y)≤2*(A 0-B 0)
theorem Pair.ind{c A B:Nat→Rat}{x y:Rat}(h:Pair c A B x y):∀ k,0≤B k∧B k≤A k∧B k*(x-y)≤2*(A k-B k)
  | 0=>⟨h.b0,h.d0,h.i⟩
  | k+1=>by
    obtain ⟨p1,p2,p3⟩:=Pair.ind h k
    have ca:=h.a1 k
    have cb:=h.b1 k
    have c6:=h.c6 k
    have yx:=h.yx
    have y0:=h.y0
    have x1:=h.x1
    have n1:=rmN y0 p1
    have n2:=rmN (show 0≤x by grind) (show 0≤A k-B k by grind)
    have n3:=rmN p1 (show 0≤x-y by grind)
    have n4:=rmR (show y≤1 by grind) n3
    refine ⟨c_nonneg c6 (by rw [cb];exact n1),?_,?_⟩
    · have:=c_nonneg (z:=A (k+1)-B (k+1)) c6 (by grind)
      grind
    · have e:c k*(2*(A (k+1)-B (k+1))-B (k+1)*(x-y))=2*(x*A k-y*B k)-y*B k*(x-y):=by rw [←ca,←cb];grind
      have:=c_nonneg (z:=2*(A (k+1)-B (k+1))-B (k+1)*(x-y)) c6 (by rw [e];grind)
      grind
theorem Pair.half{c A B:Nat→Rat}{x y:Rat}(h:Pair c A B x y)(k:Nat):2*(A (k+1)-B (k+1))≤A k-B k:=by
  obtain ⟨p1,p2,p3⟩:=h.ind k
  obtain ⟨q1,q2,q3⟩:=h.ind (k+1)
  have m:=rmR (h.c6 k) (show 0≤A (k+1)-B (k+1) by grind)
  have n:=rmR h.x1 (show 0≤A k-B k by grind)
  have ca:=h.a1 k
  have cb:=h.b1 k
  grind
theorem Pair.le{c A B:Nat→Rat}{x y:Rat}(h:Pair c A B x y)(n:Nat):sumTo (fun k=>alt k*B k) n≤sumTo (fun k=>alt k*A k) n:=by
  have p:=alt_sum_nonneg (D:=fun k=>A k-B k) (fun k=>by have:=(h.ind k).2.1;grind) (fun k=>h.half k) n
  have e:sumTo (fun k=>alt k*(A k-B k)) n=sumTo (fun k=>alt k*A k) n + -1*sumTo (fun k=>alt k*B k) n:=by
    rw [←sumTo_mul,←sumTo_add];exact sumTo_congr fun i _=>by grind
  rw [e] at p
  grind
theorem tmf_mul{f:Nat}(hf:1≤f)(x:Rat)(k:Nat):((f+2*k:Nat):Rat)*((f+2*k+1:Nat):Rat)*tmf f x (k+1)=x*tmf f x k:=by
  have p1:(0:Rat)<((f+2*k:Nat):Rat):=by rw [←Rat.intCast_natCast];exact (cast_lt (a:=0)).2 (by omega)
  have p2:=nat_pos (f+2*k)
  have i1:=Rat.inv_mul_cancel ((f+2*k:Nat):Rat) (by grind)
  have i2:=Rat.inv_mul_cancel ((f+2*k+1:Nat):Rat) (by grind)
  rw [tmf]
  generalize ((f+2*k:Nat):Rat)=u at *
  generalize ((f+2*k+1:Nat):Rat)=v at *
  have e:u*v*(tmf f x k*x*u⁻¹*v⁻¹)=tmf f x k*x*(u⁻¹*u)*(v⁻¹*v):=by grind
  rw [e,i1,i2]
  grind
theorem coef6{a b:Nat}(ha:2≤a)(hb:3≤b):(6:Rat)≤(a:Rat)*(b:Rat):=by
  have a1:(2:Rat)≤(a:Rat):=by rw [←Rat.intCast_natCast];exact (cast_le (a:=2)).2 (by omega)
  have a2:(3:Rat)≤(b:Rat):=by rw [←Rat.intCast_natCast];exact (cast_le (a:=3)).2 (by omega)
  have b1:=rmR a1 (show 0≤(b:Rat) by grind)
  grind
theorem sinS_mono0{s t:Rat}(h0:0≤s)(h:s≤t)(h1:t≤1)(n:Nat):sinS s n≤sinS t n:=by
  have y:s*s≤t*t:=by
    have a:=rmL h h0
    have b:=rmR h (show 0≤t by grind)
    grind
  have x1:t*t≤1:=by have:=rmL h1 (show 0≤t by grind);grind
  have p:Pair (fun k=>((2+2*k:Nat):Rat)*((2+2*k+1:Nat):Rat)) (fun k=>t*tmf 2 (t*t) k) (fun k=>s*tmf 2 (s*s) k) (t*t) (s*s) :=
    { c6:=fun k=>coef6 (by omega) (by omega),a1:=fun k=>by have:=tmf_mul (f:=2) (by omega) (t*t) k;grind,b1:=fun k=>by have:=tmf_mul (f:=2) (by omega) (s*s) k;grind,
      y0:=rmN h0 h0,yx:=y,x1:=x1,b0:=by show 0≤s*1;grind,d0:=by show s*1≤t*1;grind,
      i:=by
        show s*1*(t*t-s*s)≤2*(t*1-s*1)
        have a:=rmR (show t+s≤2 by grind) (show 0≤t-s by grind)
        have b:=rmR (show s≤1 by grind) (show 0≤t*t-s*s by grind)
        grind }
  have e:∀ u:Rat,sinS u n=sumTo (fun k=>alt k*(u*tmf 2 (u*u) k)) n:=fun u=>sumTo_congr fun i _=>by rw [sinT,dpw_odd]
  rw [e,e]
  exact p.le n
theorem sinS_zero(n:Nat):sinS 0 n=0:=by rw [sinS_alt,Rat.zero_mul]
theorem sinS_mono{s t:Rat}(h0:-1≤s)(h:s≤t)(h1:t≤1)(n:Nat):sinS s n≤sinS t n:=by
  rcases (show 0≤s∨s≤0 by grind) with a | a
  · exact sinS_mono0 a h h1 n
  · have e:sinS s n = -sinS (-s) n:=by rw [←sinS_neg,Rat.neg_neg]
    rcases (show 0≤t∨t≤0 by grind) with b | b
    · have c:=sinS_mono0 (Rat.le_refl (a:=0)) b h1 n
      have d:=sinS_mono0 (Rat.le_refl (a:=0)) (show 0≤-s by grind) (by grind) n
      rw [sinS_zero] at c d
      grind
    · have e':sinS t n = -sinS (-t) n:=by rw [←sinS_neg,Rat.neg_neg]
      have d:=sinS_mono0 (show 0≤-t by grind) (show -t≤-s by grind) (by grind) n
      grind
theorem cosS_anti{s t:Rat}(h:s*s≤t*t)(h1:t*t≤1)(n:Nat):cosS t n≤cosS s n:=by
  have s0:0≤s*s:=by
    rcases (show 0≤s∨s≤0 by grind) with a | a
    · exact rmN a a
    · have:=rmN (show 0≤-s by grind) (show 0≤-s by grind);grind
  have m0:∀ u:Rat,2*tmf 1 u 1=u:=fun u=>by
    have:=tmf_mul (f:=1) (by omega) u 0
    have e1:((1+2*0:Nat):Rat)*((1+2*0+1:Nat):Rat)=2:=by decide +kernel
    rw [e1] at this
    rw [this];show u*1=u;grind
  have p:Pair (fun k=>((1+2*(k+1):Nat):Rat)*((1+2*(k+1)+1:Nat):Rat)) (fun k=>tmf 1 (t*t) (k+1)) (fun k=>tmf 1 (s*s) (k+1)) (t*t) (s*s) :=
    { c6:=fun k=>coef6 (by omega) (by omega),a1:=fun k=>tmf_mul (f:=1) (by omega) (t*t) (k+1),b1:=fun k=>tmf_mul (f:=1) (by omega) (s*s) (k+1),
      y0:=s0,yx:=h,x1:=h1,b0:=by have:=m0 (s*s);show 0≤tmf 1 (s*s) 1;grind,d0:=by have:=m0 (s*s);have:=m0 (t*t);show tmf 1 (s*s) 1≤tmf 1 (t*t) 1;grind,
      i:=by
        have a:=m0 (s*s)
        have b:=m0 (t*t)
        show tmf 1 (s*s) 1*(t*t-s*s)≤2*(tmf 1 (t*t) 1-tmf 1 (s*s) 1)
        have c:=rmR (show tmf 1 (s*s) 1≤1 by grind) (show 0≤t*t-s*s by grind)
        grind }
  have e:∀ u:Rat,cosS u n=sumTo (fun k=>alt k*tmf 1 (u*u) k) n:=fun u=>cosS_alt u n
  cases n with
  | zero=>exact Rat.le_refl
  | succ n =>
    rw [e,e,sumTo_head,sumTo_head]
    have q:=p.le n
    have g:∀ u:Rat,sumTo (fun i=>alt (i+1)*tmf 1 u (i+1)) n = -1*sumTo (fun i=>alt i*tmf 1 u (i+1)) n:=fun u=>by
      rw [←sumTo_mul];exact sumTo_congr fun i _=>by rw [alt_succ];grind
    rw [g,g]
    show alt 0*1+_≤alt 0*1+_
    grind
theorem Enc.le{s t:Nat→Rat}{a b c d:Rat}(h:Enc s a b)(k:Enc t c d)(hs:∀ n,s n≤t n):a≤d:=by
  refine Rat.not_lt.1 fun g=>?_
  obtain ⟨N,hN⟩:=h ((a-d)/4) (by grind)
  obtain ⟨M,hM⟩:=k ((a-d)/4) (by grind)
  have x:=(hN (N+M) (by omega)).1
  have y:=(hM (N+M) (by omega)).2
  have z:=hs (N+M)
  grind
def Rel(ε x y:Rat):Prop:=(x-y≤ε*y∧y-x≤ε*y)∨(x-y≤-(ε*y)∧y-x≤-(ε*y))
theorem min_close{a1 b1 a2 b2 c1 d1 c2 d2 m y δ:Rat}(h1:Nar δ a1 b1)(h2:Nar δ a2 b2)(k1:Nar δ c1 d1)(k2:Nar δ c2 d2)(x1:a1≤d1)(x2:c1≤b1)(x3:a2≤d2)(x4:c2≤b2)
    (m1:m≤a1) (m2:m≤a2) (mm:m=a1∨m=b1∨m=a2∨m=b2) (y1:y≤c1) (y2:y≤c2) (yy:y=c1∨y=c2):m≤y+δ*y∧y≤m+δ*m:=by
  obtain ⟨a0,ab,e1⟩:=h1
  obtain ⟨a0',ab',e1'⟩:=h2
  obtain ⟨c0,cd,f1⟩:=k1
  obtain ⟨c0',cd',f1'⟩:=k2
  have M:m=a1∨m=a2:=by grind
  refine ⟨?_,?_⟩
  · rcases yy with rfl | rfl<;>grind
  · rcases M with rfl | rfl<;>grind
theorem max_close{a1 b1 a2 b2 c1 d1 c2 d2 m y δ:Rat}(d0:0≤δ)(h1:Nar δ a1 b1)(h2:Nar δ a2 b2)(k1:Nar δ c1 d1)(k2:Nar δ c2 d2)(x1:a1≤d1)(x2:c1≤b1)(x3:a2≤d2)(x4:c2≤b2)
    (m1:b1≤m) (m2:b2≤m) (mm:m=a1∨m=b1∨m=a2∨m=b2) (y1:d1≤y) (y2:d2≤y) (yy:y=d1∨y=d2):m≤y+δ*y∧y≤m+δ*m:=by
  obtain ⟨a0,ab,e1⟩:=h1
  obtain ⟨a0',ab',e1'⟩:=h2
  obtain ⟨c0,cd,f1⟩:=k1
  obtain ⟨c0',cd',f1'⟩:=k2
  have M:m=b1∨m=b2:=by grind
  have q1:=rmL (show a1≤y by grind) d0
  have q2:=rmL (show a2≤y by grind) d0
  have q3:=rmL (show c1≤m by grind) d0
  have q4:=rmL (show c2≤m by grind) d0
  refine ⟨?_,?_⟩
  · rcases M with e | e<;>grind
  · rcases yy with e | e<;>grind
theorem dn_close{q:Int}{m c y δ ε:Rat}(h:Dn q m c)(hq:1≤q)(m0:0<m)(d0:0≤δ)(d1:δ≤1)(k1:m≤y+δ*y)(k2:y≤m+δ*m)(he:2*(δ+eps q)≤ε):Rel ε c y:=by
  obtain ⟨r1,r2⟩:=h.rel hq m0
  have r3:=h.2.1
  have e0:=eps_pos q
  have y0:0<y:=Rat.not_le.1 fun g=>by
    have:=rmL g d0
    grind
  have t1:=rmR d1 (rlL y0)
  have t2:=rmL (show m≤2*y by grind) (show 0≤δ+eps q by grind)
  have t3:=rmR he (rlL y0)
  have t4:=rmN (rlL e0) (rlL y0)
  have t5:=rmN d0 (rlL y0)
  exact .inl ⟨by grind,by grind⟩
theorem up_close{q:Int}{m c y δ ε:Rat}(h:Up q m c)(hq:1≤q)(m0:0<m)(d0:0≤δ)(d1:δ≤1)(k1:m≤y+δ*y)(k2:y≤m+δ*m)(he:2*(δ+eps q)≤ε):Rel ε c y:=by
  have r1:=h.rel hq m0
  have r3:=h.2.1
  have e0:=eps_pos q
  have y0:0<y:=Rat.not_le.1 fun g=>by
    have:=rmL g d0
    grind
  have t1:=rmR d1 (rlL y0)
  have t2:=rmL (show m≤2*y by grind) (show 0≤δ by grind)
  have t6:=rmL (show m≤2*y by grind) (rlL e0)
  have t3:=rmR he (rlL y0)
  have t4:=rmN (rlL e0) (rlL y0)
  have t5:=rmN d0 (rlL y0)
  exact .inl ⟨by grind,by grind⟩
theorem sgn_le0{d:Dx}(h:0≤d.m):d.sgn≤0↔d.rv≤0:=by
  rcases sgn_rv h with ⟨a,b⟩|⟨a,b⟩|⟨a,b⟩
  · rw [a,b];simp
  · exact ⟨fun k=>by omega,fun k=>by exfalso;grind⟩
  · exact ⟨fun _=>rlL b,fun _=>by omega⟩
theorem sgn_ge0{d:Dx}(h:0≤d.m):0≤d.sgn↔0≤d.rv:=by
  rcases sgn_rv h with ⟨a,b⟩|⟨a,b⟩|⟨a,b⟩
  · rw [a,b];simp
  · exact ⟨fun _=>rlL b,fun _=>by omega⟩
  · exact ⟨fun k=>by omega,fun k=>by exfalso;grind⟩
theorem zeroV_rv{v:Vx}(hv:v.P):zeroV v=true↔v.lo.rv≤0∧0≤v.hi.rv:=by
  unfold zeroV
  rw [Bool.and_eq_true,decide_eq_true_eq,decide_eq_true_eq,sgn_le0 hv.1,sgn_ge0 hv.2]
theorem hull_lo(a b:Vx):(hullV a b).lo.rv≤a.lo.rv∧(hullV a b).lo.rv≤b.lo.rv∧((hullV a b).lo=a.lo∨(hullV a b).lo=b.lo):=by
  by_cases h:cmpD b.lo a.lo<0
  · have e:(hullV a b).lo=b.lo:=if_pos h
    have:=cmpD_lt0.1 h
    rw [e];exact ⟨by grind,Rat.le_refl,.inr rfl⟩
  · have e:(hullV a b).lo=a.lo:=if_neg h
    have:=fun k=>h (cmpD_lt0.2 k)
    rw [e];exact ⟨Rat.le_refl,by grind,.inl rfl⟩
theorem hull_hi(a b:Vx):a.hi.rv≤(hullV a b).hi.rv∧b.hi.rv≤(hullV a b).hi.rv∧((hullV a b).hi=a.hi∨(hullV a b).hi=b.hi):=by
  by_cases h:0<cmpD b.hi a.hi
  · have e:(hullV a b).hi=b.hi:=if_pos h
    have:=cmpD_gt0.1 h
    rw [e];exact ⟨by grind,Rat.le_refl,.inr rfl⟩
  · have e:(hullV a b).hi=a.hi:=if_neg h
    have:=fun k=>h (cmpD_gt0.2 k)
    rw [e];exact ⟨Rat.le_refl,by grind,.inl rfl⟩
structure CosB (v:Vx) (p:Int) (X Y:Vx):Prop where
  xp:X.P
  yp:Y.P
  lo:p2 (-2)≤X.lo.rv∧X.lo.rv≤p2 2
  hi:p2 (-2)≤X.hi.rv∧X.hi.rv≤p2 2
  le:X.lo.rv≤X.hi.rv
  c1:X.lo.rv≤Y.lo.rv+p2 (-24-p)*Y.lo.rv∧Y.lo.rv≤X.lo.rv+p2 (-24-p)*X.lo.rv
  c2:X.hi.rv≤Y.hi.rv+p2 (-24-p)*Y.hi.rv∧Y.hi.rv≤X.hi.rv+p2 (-24-p)*X.hi.rv
  has:∀ x a b,v.lo.rv≤x→x≤v.hi.rv→Enc (cosS x) a b→X.lo.rv≤b∧a≤X.hi.rv
theorem sqr_mono{x y:Rat}(h0:0≤x)(h:x≤y):x*x≤y*y:=by
  have a:=rmL h h0
  have b:=rmR h (show 0≤y by grind)
  grind
theorem sqr_mono'{x y:Rat}(h0:y≤0)(h:x≤y):y*y≤x*x:=by
  have:=sqr_mono (x:=-y) (y:=-x) (by grind) (by grind)
  grind
theorem cosines_ok{v:Vx}{p:Int}(hv:v.P)(f1:small1 v.lo)(f2:small1 v.hi)(hl:v.lo.rv≤v.hi.rv)(p0:0≤p)(p1:p≤8000):CosB v p (cosinesV (onesV v) p) (cosinesH v p):=by
  have A:=cosineV_iv (t:=oneD v.lo) (p:=p) oneD_p (small_one hv.1 f1) p0 (by omega)
  have B:=cosineV_iv (t:=oneD v.hi) (p:=p) oneD_p (small_one hv.2 f2) p0 (by omega)
  have C:=cosineH_iv (p:=p) hv.1 f1 p0 (by omega)
  have D:=cosineH_iv (p:=p) hv.2 f2 p0 (by omega)
  rw [rv_one hv.1] at A
  rw [rv_one hv.2] at B
  have sl:=span4_lo (cosineV (oneD v.lo) p).lo (cosineV (oneD v.lo) p).hi (cosineV (oneD v.hi) p).lo (cosineV (oneD v.hi) p).hi
  have sh:=span4_hi (cosineV (oneD v.lo) p).lo (cosineV (oneD v.lo) p).hi (cosineV (oneD v.hi) p).lo (cosineV (oneD v.hi) p).hi
  have sp:=span4_p A.1.1 A.1.2 B.1.1 B.1.2
  have hL:=hull_lo (cosineH v.lo p) (cosineH v.hi p)
  have hH:=hull_hi (cosineH v.lo p) (cosineH v.hi p)
  have z:zeroV (onesV v)=zeroV v:=by
    unfold zeroV onesV
    show (decide ((oneD v.lo).sgn≤0) && decide (0≤(oneD v.hi).sgn))=_
    rw [one_sgn _ hv.1,one_sgn _ hv.2]
  have lo1:(cosinesV (onesV v) p).lo=(spanL (cosineV (oneD v.lo) p).lo [(cosineV (oneD v.lo) p).hi,(cosineV (oneD v.hi) p).lo,(cosineV (oneD v.hi) p).hi]).lo:=by
    unfold cosinesV;split<;>rfl
  have lo2:(cosinesH v p).lo=(hullV (cosineH v.lo p) (cosineH v.hi p)).lo:=by
    unfold cosinesH;split<;>rfl
  have hi1:zeroV v=false→(cosinesV (onesV v) p).hi=(spanL (cosineV (oneD v.lo) p).lo [(cosineV (oneD v.lo) p).hi,(cosineV (oneD v.hi) p).lo,(cosineV (oneD v.hi) p).hi]).hi:=fun h=>by
    unfold cosinesV;rw [z,h];rfl
  have hi2:zeroV v=false→(cosinesH v p).hi=(hullV (cosineH v.lo p) (cosineH v.hi p)).hi:=fun h=>by
    unfold cosinesH;rw [h];rfl
  have hz1:zeroV v=true→(cosinesV (onesV v) p).hi=mkS 1 0:=fun h=>by
    unfold cosinesV;rw [z,h];rfl
  have hz2:zeroV v=true→(cosinesH v p).hi=mkS 1 0:=fun h=>by
    unfold cosinesH;rw [h];rfl
  have r:(mkS 1 0).rv=1:=rv_int 1
  have dd:p2 (-40-p)≤p2 (-24-p):=p2_le (by omega)
  have d0:=rlL (p2_pos (-24-p))
  have nA:=A.2.2.nar.mono dd
  have nB:=B.2.2.nar.mono dd
  have nC:=C.2.2.nar
  have nD:=D.2.2.nar
  have x1:=A.2.1.meets C.2.1
  have x2:=C.2.1.meets A.2.1
  have x3:=B.2.1.meets D.2.1
  have x4:=D.2.1.meets B.2.1
  have lA:=A.2.2.lo
  have hA:=A.2.2.hi
  have lB:=B.2.2.lo
  have hB:=B.2.2.hi
  have mm:=sl.2.2.2.2
  have MM:=sh.2.2.2.2
  have one1:p2 (-2)≤1∧(1:Rat)≤p2 2:=by
    have a:=p2_le (show (-2:Int)≤0 by omega)
    have b:=p2_le (show (0:Int)≤2 by omega)
    rw [p2_zero] at a b
    exact ⟨a,b⟩
  have bdA:=(cosS_bd f1.2 f1.1 A.2.1).1
  have min:=min_close (m:=(spanL (cosineV (oneD v.lo) p).lo [(cosineV (oneD v.lo) p).hi,(cosineV (oneD v.hi) p).lo,(cosineV (oneD v.hi) p).hi]).lo.rv) (y:=(hullV (cosineH v.lo p) (cosineH v.hi p)).lo.rv) nA nB nC nD x1 x2 x3 x4 sl.1 sl.2.2.1 (by rcases mm with e | e | e | e<;>rw [e]<;>simp) hL.1 hL.2.1 (by rcases hL.2.2 with e | e<;>rw [e]<;>simp)
  have max:=max_close (m:=(spanL (cosineV (oneD v.lo) p).lo [(cosineV (oneD v.lo) p).hi,(cosineV (oneD v.hi) p).lo,(cosineV (oneD v.hi) p).hi]).hi.rv) (y:=(hullV (cosineH v.lo p) (cosineH v.hi p)).hi.rv) d0 nA nB nC nD x1 x2 x3 x4 sh.2.1 sh.2.2.2.1 (by rcases MM with e | e | e | e<;>rw [e]<;>simp) hH.1 hH.2.1 (by rcases hH.2.2 with e | e<;>rw [e]<;>simp)
  have X0:=nA.2.1
  have X1:=nB.2.1
  have Lo:p2 (-2)≤(cosinesV (onesV v) p).lo.rv∧(cosinesV (onesV v) p).lo.rv≤p2 2:=by
    rw [lo1]
    refine ⟨?_,by grind⟩
    rcases mm with e | e | e | e<;>rw [e]<;>grind
  have q1:small1 v.lo:=f1
  refine ⟨⟨by rw [lo1];exact sp.1,?_⟩,⟨?_,?_⟩,Lo,?_,?_,by rw [lo1,lo2];exact min,?_,?_⟩
  · cases h:zeroV v with
    | true=>rw [hz1 h];exact mkS_p
    | false=>rw [hi1 h];exact sp.2
  · rw [lo2]
    rcases hL.2.2 with e | e<;>rw [e]
    · exact C.1.p.1
    · exact D.1.p.1
  · cases h:zeroV v with
    | true=>rw [hz2 h];exact mkS_p
    | false =>
      rw [hi2 h]
      rcases hH.2.2 with e | e<;>rw [e]
      · exact C.1.p.2
      · exact D.1.p.2
  · cases h:zeroV v with
    | true=>rw [hz1 h,r];exact one1
    | false =>
      rw [hi1 h]
      refine ⟨by grind,?_⟩
      rcases MM with e | e | e | e<;>rw [e]<;>grind
  · cases h:zeroV v with
    | true=>rw [hz1 h,r,lo1];grind
    | false=>rw [hi1 h,lo1];grind
  · cases h:zeroV v with
    | true=>rw [hz1 h,hz2 h,r];exact ⟨by grind,by grind⟩
    | false=>rw [hi1 h,hi2 h];exact max
  · intro x a b h1 h2 E
    have b1:x*x≤1:=sqr_le1 (by have:=f2.1;grind) (by have:=f1.2;grind)
    have c1:v.lo.rv*v.lo.rv≤1:=sqr_le1 f1.1 f1.2
    have c2:v.hi.rv*v.hi.rv≤1:=sqr_le1 f2.1 f2.2
    refine ⟨?_,?_⟩
    · rw [lo1]
      rcases (show 0≤x∨x≤0 by grind) with g | g
      · have:=B.2.1.le E (fun n=>cosS_anti (sqr_mono g h2) c2 n)
        grind
      · have:=A.2.1.le E (fun n=>cosS_anti (sqr_mono' g h1) c1 n)
        grind
    · cases h:zeroV v with
      | true =>
        rw [hz1 h,r]
        exact (cosS_bd (t:=x) (by have:=f1.2;grind) (by have:=f2.1;grind) E).1
      | false =>
        rw [hi1 h]
        rcases (show 0<v.lo.rv∨v.hi.rv<0 by
          have:=fun k=>(by rw [(zeroV_rv hv).2 k] at h;exact absurd h (by simp):False)
          grind) with g | g
        · have:=E.le A.2.1 (fun n=>cosS_anti (sqr_mono (rlL g) h1) b1 n)
          grind
        · have:=E.le B.2.1 (fun n=>cosS_anti (sqr_mono' (rlL g) h2) b1 n)
          grind
theorem fits_end{d:Dx}{q:Int}{up:Bool}{x:Rat}(hd:0≤d.m)(h:Rp q (cutD d q up).rv)(q0:1≤q)(q1:q≤8000)(x0:p2 (-3)≤x)(x1:x≤p2 3)(e:(cutD d q up).rv=x):(cutD d q up).fitsB=true:=by
  have p:=p2_pos (-3)
  have a:=(rv_amt (d:=cutD d q up) cutD_p).1 (by rw [e];grind)
  rw [e] at a
  exact fits_rp (cutD_f hd) h (by omega) (fun _=>by rw [←a];exact x0) (by rw [←a];exact x1) (by omega) (by omega)
theorem cos_cut{v:Vx}{p:Int}{X Y:Vx}(K:CosB v p X Y)(p0:0≤p)(p1:p≤7000) :
    rightV (trimV X (p+8))=true∧Rel (p2 (2-p)) (trimV X (p+8)).lo.rv Y.lo.rv∧Rel (p2 (2-p)) (trimV X (p+8)).hi.rv Y.hi.rv∧(trimV X (p+8)).lo.rv≤X.lo.rv∧X.hi.rv≤(trimV X (p+8)).hi.rv:=by
  obtain ⟨b1,b2⟩:=trim_best K.xp (p:=p+8) (by omega)
  have q2:=p2_pos (-2)
  have r1:=b1.rel (by omega) (show 0<X.lo.rv by have:=K.lo.1;grind)
  have r2:=b2.rel (by omega) (show 0<X.hi.rv by have:=K.hi.1;grind)
  have e:eps (p+8)=p2 (-7-p):=by unfold eps;congr 1;omega
  have e1:eps (p+8)≤p2 (-1):=by rw [e];exact p2_le (by omega)
  have hf:=p2_half (-1)
  rw [show (-1+1:Int)=0 by omega,p2_zero] at hf
  have t1:=rmR e1 (show 0≤X.lo.rv by have:=K.lo.1;grind)
  have t2:=rmR e1 (show 0≤X.hi.rv by have:=K.hi.1;grind)
  have h3:=p2_half (-3)
  rw [show (-3+1:Int) = -2 by omega] at h3
  have h2:=p2_half 2
  rw [show (2+1:Int)=3 by omega] at h2
  have g23:p2 2≤p2 3:=p2_le (by omega)
  have l1:=K.lo.1
  have l2:=K.lo.2
  have l3:=K.hi.1
  have l4:=K.hi.2
  have hl:=b1.2.1
  have hh:=b2.2.1
  have x2:p2 (-1)*X.lo.rv+p2 (-1)*X.lo.rv=X.lo.rv:=by grind
  have x3:p2 (-1)*X.hi.rv+p2 (-1)*X.hi.rv=X.hi.rv:=by grind
  have f1:(trimV X (p+8)).lo.fitsB=true:=fits_end K.xp.1 b1.1 (by omega) (by omega) (x:=(trimV X (p+8)).lo.rv) (by grind) (by grind) rfl
  have f2:(trimV X (p+8)).hi.fitsB=true:=fits_end K.xp.2 b2.1 (by omega) (by omega) (x:=(trimV X (p+8)).hi.rv) (by grind) (by grind) rfl
  have d0:=rlL (p2_pos (-24-p))
  have d1:p2 (-24-p)≤1:=by have:=p2_le (show -24-p≤0 by omega);rwa [p2_zero] at this
  have he:2*(p2 (-24-p)+eps (p+8))≤p2 (2-p):=by
    have a:=p2_le (show -24-p≤-7-p by omega)
    have b:=p2_dbl (-7-p)
    have c:=p2_half (-7-p+1)
    have d:=p2_le (show -7-p+1+1≤2-p by omega)
    rw [e];grind
  exact ⟨right_of f1 f2 (by have:=K.le;grind),dn_close b1 (by omega) (by grind) d0 d1 K.c1.1 K.c1.2 he,up_close b2 (by omega) (by grind) d0 d1 K.c2.1 K.c2.2 he,hl,hh⟩
theorem altS2_anti{x y:Rat}(x0:0≤x)(h:x≤y)(h1:y≤1)(n:Nat):altS 2 y n≤altS 2 x n:=by
  have m0:∀ u:Rat,6*tmf 2 u 1=u:=fun u=>by
    have:=tmf_mul (f:=2) (by omega) u 0
    have e1:((2+2*0:Nat):Rat)*((2+2*0+1:Nat):Rat)=6:=by decide +kernel
    rw [e1] at this
    rw [this];show u*1=u;grind
  have p:Pair (fun k=>((2+2*(k+1):Nat):Rat)*((2+2*(k+1)+1:Nat):Rat)) (fun k=>tmf 2 y (k+1)) (fun k=>tmf 2 x (k+1)) y x :=
    { c6:=fun k=>coef6 (by omega) (by omega),a1:=fun k=>tmf_mul (f:=2) (by omega) y (k+1),b1:=fun k=>tmf_mul (f:=2) (by omega) x (k+1),
      y0:=x0,yx:=h,x1:=h1,b0:=by have:=m0 x;show 0≤tmf 2 x 1;grind,d0:=by have:=m0 x;have:=m0 y;show tmf 2 x 1≤tmf 2 y 1;grind,
      i:=by
        have a:=m0 x
        have b:=m0 y
        show tmf 2 x 1*(y-x)≤2*(tmf 2 y 1-tmf 2 x 1)
        have c:=rmR (show tmf 2 x 1≤1/6 by grind) (show 0≤y-x by grind)
        grind }
  have e:∀ u:Rat,altS 2 u n=sumTo (fun k=>alt k*tmf 2 u k) n:=fun u=>rfl
  cases n with
  | zero=>exact Rat.le_refl
  | succ n =>
    rw [e,e,sumTo_head,sumTo_head]
    have q:=p.le n
    have g:∀ u:Rat,sumTo (fun i=>alt (i+1)*tmf 2 u (i+1)) n = -1*sumTo (fun i=>alt i*tmf 2 u (i+1)) n:=fun u=>by
      rw [←sumTo_mul];exact sumTo_congr fun i _=>by rw [alt_succ];grind
    rw [g,g]
    show alt 0*1+_≤alt 0*1+_
    grind
theorem sin_ratio{a b:Rat}(a0:0≤a)(h:a≤b)(h1:b≤1)(n:Nat):a*sinS b n≤b*sinS a n:=by
  have b0:0≤b:=by grind
  have b1:b*b≤1:=by have:=rmL h1 b0;grind
  have m:=altS2_anti (x:=a*a) (y:=b*b) (rmN a0 a0) (sqr_mono a0 h) b1 n
  rw [sinS_alt,sinS_alt]
  have:=rmL m (rmN a0 b0)
  grind
theorem cos_diff{s t:Rat}(h:s*s≤t*t)(h1:t*t≤1)(n:Nat):cosS s n-cosS t n≤(t*t-s*s)/2:=by
  have s0:0≤s*s:=by
    rcases (show 0≤s∨s≤0 by grind) with a | a
    · exact rmN a a
    · have:=rmN (show 0≤-s by grind) (show 0≤-s by grind);grind
  have m0:∀ u:Rat,2*tmf 1 u 1=u:=fun u=>by
    have:=tmf_mul (f:=1) (by omega) u 0
    have e1:((1+2*0:Nat):Rat)*((1+2*0+1:Nat):Rat)=2:=by decide +kernel
    rw [e1] at this
    rw [this];show u*1=u;grind
  have p:Pair (fun k=>((1+2*(k+1):Nat):Rat)*((1+2*(k+1)+1:Nat):Rat)) (fun k=>tmf 1 (t*t) (k+1)) (fun k=>tmf 1 (s*s) (k+1)) (t*t) (s*s) :=
    { c6:=fun k=>coef6 (by omega) (by omega),a1:=fun k=>tmf_mul (f:=1) (by omega) (t*t) (k+1),b1:=fun k=>tmf_mul (f:=1) (by omega) (s*s) (k+1),
      y0:=s0,yx:=h,x1:=h1,b0:=by have:=m0 (s*s);show 0≤tmf 1 (s*s) 1;grind,d0:=by have:=m0 (s*s);have:=m0 (t*t);show tmf 1 (s*s) 1≤tmf 1 (t*t) 1;grind,
      i:=by
        have a:=m0 (s*s)
        have b:=m0 (t*t)
        show tmf 1 (s*s) 1*(t*t-s*s)≤2*(tmf 1 (t*t) 1-tmf 1 (s*s) 1)
        have c:=rmR (show tmf 1 (s*s) 1≤1 by grind) (show 0≤t*t-s*s by grind)
        grind }
  have dn:∀ k,0≤tmf 1 (t*t) (k+1)-tmf 1 (s*s) (k+1):=fun k=>by have:=(p.ind k).2.1;grind
  have key:∀ m,sumTo (fun k=>alt k*(tmf 1 (t*t) (k+1)-tmf 1 (s*s) (k+1))) m≤tmf 1 (t*t) 1-tmf 1 (s*s) 1:=fun m=>by
    cases m with
    | zero=>exact dn 0
    | succ m =>
      rw [sumTo_head]
      have q:=alt_sum_nonneg (D:=fun k=>tmf 1 (t*t) (k+1+1)-tmf 1 (s*s) (k+1+1)) (fun k=>dn (k+1)) (fun k=>p.half (k+1)) m
      have g:sumTo (fun i=>alt (i+1)*(tmf 1 (t*t) (i+1+1)-tmf 1 (s*s) (i+1+1))) m = -1*sumTo (fun i=>alt i*(tmf 1 (t*t) (i+1+1)-tmf 1 (s*s) (i+1+1))) m:=by
        rw [←sumTo_mul];exact sumTo_congr fun i _=>by rw [alt_succ];grind
      rw [g]
      show alt 0*(tmf 1 (t*t) 1-tmf 1 (s*s) 1)+_≤_
      have a0:alt 0=1:=rfl
      rw [a0];grind
  have e:∀ u:Rat,cosS u n=sumTo (fun k=>alt k*tmf 1 (u*u) k) n:=fun u=>cosS_alt u n
  have m1:=m0 (s*s)
  have m2:=m0 (t*t)
  cases n with
  | zero =>
    have z:∀ u:Rat,cosS u 0=0:=fun _=>rfl
    rw [z,z];grind
  | succ n =>
    rw [e,e,sumTo_head,sumTo_head]
    have g:∀ u:Rat,sumTo (fun i=>alt (i+1)*tmf 1 u (i+1)) n = -1*sumTo (fun i=>alt i*tmf 1 u (i+1)) n:=fun u=>by
      rw [←sumTo_mul];exact sumTo_congr fun i _=>by rw [alt_succ];grind
    rw [g,g]
    have q:=key n
    have e2:sumTo (fun k=>alt k*(tmf 1 (t*t) (k+1)-tmf 1 (s*s) (k+1))) n=sumTo (fun k=>alt k*tmf 1 (t*t) (k+1)) n + -1*sumTo (fun k=>alt k*tmf 1 (s*s) (k+1)) n:=by
      rw [←sumTo_mul,←sumTo_add];exact sumTo_congr fun i _=>by grind
    rw [e2] at q
    show (alt 0*1+_)-(alt 0*1+_)≤_
    grind
theorem sin_nar{a b l1 h1 l2 h2 δ ε:Rat}(hab:Nar δ a b)(b1:b≤1)(e1:Enc (sinS a) l1 h1)(e2:Enc (sinS b) l2 h2)(n1:Nar ε l1 h1)(n2:Nar ε l2 h2)(d0:0≤δ)(d1:δ≤1/8)(f0:0≤ε)(f1:ε≤1/8):Nar (2*δ+4*ε) l1 h2:=by
  obtain ⟨a0,ab,bd⟩:=hab
  obtain ⟨x0,x1,x2⟩:=n1
  obtain ⟨y0,y1,y2⟩:=n2
  have r:a*l2≤b*h1:=Enc.le (e2.scale (c:=a) (by grind)) (e1.scale (c:=b) (by grind)) (fun n=>sin_ratio (by grind) ab b1 n)
  have m:l1≤h2:=Enc.le e1 e2 (fun n=>sinS_mono (by grind) ab b1 n)
  refine ⟨x0,m,?_⟩
  have s1:=rmR bd (show 0≤h1 by grind)
  have s2:=rmL x2 (show 0≤a+δ*a by have:=rmN d0 (rlL a0);grind)
  have t:l2≤(1+δ)*(l1+ε*l1):=by
    rw [←Rat.not_lt];intro hlt
    have:=Rat.mul_lt_mul_of_pos_left hlt a0
    grind
  have u0:=rmN f0 (rlL x0)
  have u1:=rmR f1 (show 0≤l2 by grind)
  have v1:=rmL t f0
  have w1:=rmR d1 u0
  have w2:=rmR f1 u0
  have w3:=rmR f1 (rmN d0 (rlL x0))
  have w4:=rmN d0 (rlL x0)
  have w5:=rmL w2 d0
  have w6:=rmL w2 (Rat.le_refl (a:=0))
  have w7:=rmN d0 u0
  have w8:=rmR f1 w7
  grind
def VN(δ:Rat)(v:Vx):Prop:=(v.lo.rv=0∧v.hi.rv=0)∨NarV δ v
structure SinB (δ L H:Rat) (v X:Vx):Prop where
  p:X.P
  vm:VM δ L H X
  has:∀ x a b,v.lo.rv≤x→x≤v.hi.rv→Enc (sinS x) a b→X.lo.rv≤b∧a≤X.hi.rv
theorem sinS_bd'{t:Rat}(t0:t<0)(t1:-1≤t){a b:Rat}(h:Enc (sinS t) a b):a<0:=by
  have e:(fun n=>-sinS t n)=sinS (-t):=by funext n;rw [sinS_neg]
  have k:=h.neg
  rw [e] at k
  have:=(sinS_bd (t:=-t) (by grind) (by grind) k).2
  have m:=rmL (show (-t)*(-t)≤1 by have:=rmL (show -t≤1 by grind) (show 0≤-t by grind);grind) (show 0≤-t by grind)
  grind
theorem sinS_bd0{t:Rat}(t0:0<t)(t1:t≤1){a b:Rat}(h:Enc (sinS t) a b):0<b:=by
  have:=(sinS_bd t0 t1 h).2
  have m:=rmL (show t*t≤1 by have:=rmL t1 (show 0≤t by grind);grind) (show 0≤t by grind)
  grind
theorem sines_nar{v:Vx}{p:Int}{δ:Rat}{A:Int}(hv:v.P)(f1:small1 v.lo)(f2:small1 v.hi)(hn:NarV δ v)(hA:p2 A≤v.lo.rv∨p2 A≤-v.hi.rv)(d0:0≤δ)(d1:δ≤1/8)(p0:0≤p)(p1:p≤8000) :
    SinB (2*δ+4*p2 (-36-p)) (p2 (A-4)) (p2 4) v (sinesV (onesV v) p):=by
  have qA:=p2_pos A
  have r1:(oneD v.lo).rv=v.lo.rv:=rv_one hv.1
  have r2:(oneD v.hi).rv=v.hi.rv:=rv_one hv.2
  obtain ⟨a1,a2⟩:=rv_amt (d:=oneD v.lo) oneD_p
  obtain ⟨b1,b2⟩:=rv_amt (d:=oneD v.hi) oneD_p
  rw [r1] at a1 a2
  rw [r2] at b1 b2
  have w:p2 (-36-p)≤1/8:=by
    have:=p2_le (show -36-p≤-3 by omega)
    have e:p2 (-3)=1/8:=by decide +kernel
    grind
  have w0:=rlL (p2_pos (-36-p))
  have key:∀ {a b l1 h1 l2 h2:Rat},Nar δ a b→b≤1→Enc (sinS a) l1 h1→Enc (sinS b) l2 h2→NM (p2 (-36-p)) (p2 (A-4)) (p2 4) l1 h1→NM (p2 (-36-p)) (p2 (A-4)) (p2 4) l2 h2→NM (2*δ+4*p2 (-36-p)) (p2 (A-4)) (p2 4) l1 h2:=fun n hb e1 e2 n1 n2 =>
    ⟨n1.L0,n1.lo,n2.hi,sin_nar n hb e1 e2 n1.nar n2.nar d0 d1 w0 w⟩
  have lo_ne:v.lo.rv≠0∧v.hi.rv≠0∧p2 A≤((oneD v.lo).m:Rat)*p2 (oneD v.lo).e∧p2 A≤((oneD v.hi).m:Rat)*p2 (oneD v.hi).e:=by
    rcases hn with ⟨n0,n1,n2⟩|⟨n0,n1,n2⟩
    · have h:p2 A≤v.lo.rv:=by rcases hA with h | h<;>grind
      exact ⟨by grind,by grind,by rw [←a1 (by grind)];exact h,by rw [←b1 (by grind)];grind⟩
    · have h:p2 A≤-v.hi.rv:=by rcases hA with h | h<;>grind
      exact ⟨by grind,by grind,by rw [←a2 (by grind)];grind,by rw [←b2 (by grind)];exact h⟩
  obtain ⟨z1,z2,m1,m2⟩:=lo_ne
  have P:=sineV_iv (t:=oneD v.lo) (p:=p) oneD_p (small_one hv.1 f1) (by rw [r1];exact z1) m1 p0 (by omega)
  have Q:=sineV_iv (t:=oneD v.hi) (p:=p) oneD_p (small_one hv.2 f2) (by rw [r2];exact z2) m2 p0 (by omega)
  rw [r1] at P
  rw [r2] at Q
  obtain ⟨P1,P2,P3⟩:=P
  obtain ⟨Q1,Q2,Q3⟩:=Q
  have hl:v.lo.rv≤v.hi.rv:=by
    rcases hn with ⟨_,n1,_⟩|⟨_,n1,_⟩
    · exact n1
    · grind
  refine ⟨⟨P1.1,Q1.2⟩,?_,fun x a b x1 x2 E=>⟨P2.le E fun n=>sinS_mono f1.2 x1 (Rat.le_trans x2 f2.1) n,E.le Q2 fun n=>sinS_mono (Rat.le_trans f1.2 x1) x2 f2.1 n⟩⟩
  show NM _ _ _ (sineV (oneD v.lo) p).lo.rv (sineV (oneD v.hi) p).hi.rv∨NM _ _ _ (-(sineV (oneD v.hi) p).hi.rv) (-(sineV (oneD v.lo) p).lo.rv)
  rcases hn with n | n
  · obtain ⟨n0,n1,n2⟩:=n
    have s1:=sinS_bd0 n0 f1.1 P2
    have s2:=sinS_bd0 (show 0<v.hi.rv by grind) f2.1 Q2
    have g1:NM (p2 (-36-p)) (p2 (A-4)) (p2 4) (sineV (oneD v.lo) p).lo.rv (sineV (oneD v.lo) p).hi.rv:=by
      rcases P3 with h | h
      · exact h
      · exfalso;have:=h.nar.1;grind
    have g2:NM (p2 (-36-p)) (p2 (A-4)) (p2 4) (sineV (oneD v.hi) p).lo.rv (sineV (oneD v.hi) p).hi.rv:=by
      rcases Q3 with h | h
      · exact h
      · exfalso;have:=h.nar.1;grind
    exact .inl (key ⟨n0,n1,n2⟩ f2.1 P2 Q2 g1 g2)
  · obtain ⟨n0,n1,n2⟩:=n
    have s1:=sinS_bd' (show v.lo.rv<0 by grind) f1.2 P2
    have s2:=sinS_bd' (show v.hi.rv<0 by grind) f2.2 Q2
    have g1:NM (p2 (-36-p)) (p2 (A-4)) (p2 4) (-(sineV (oneD v.lo) p).hi.rv) (-(sineV (oneD v.lo) p).lo.rv):=by
      rcases P3 with h | h
      · exfalso;have:=h.nar.1;grind
      · exact h
    have g2:NM (p2 (-36-p)) (p2 (A-4)) (p2 4) (-(sineV (oneD v.hi) p).hi.rv) (-(sineV (oneD v.hi) p).lo.rv):=by
      rcases Q3 with h | h
      · exfalso;have:=h.nar.1;grind
      · exact h
    have P2':=P2.neg
    have Q2':=Q2.neg
    rw [show (fun n=>-sinS v.lo.rv n)=sinS (-v.lo.rv) by funext n;rw [sinS_neg]] at P2'
    rw [show (fun n=>-sinS v.hi.rv n)=sinS (-v.hi.rv) by funext n;rw [sinS_neg]] at Q2'
    exact .inr (key (a:=-v.hi.rv) (b:=-v.lo.rv) ⟨n0,n1,n2⟩ (by have:=f1.2;grind) Q2' P2' g2 g1)
theorem cos_gap{a b δ:Rat}(hn:Nar δ a b)(h1:b≤1)(d0:0≤δ)(n:Nat):cosS a n-cosS b n≤δ:=by
  obtain ⟨a0,ab,bd⟩:=hn
  have b1:b*b≤1:=by have:=rmL h1 (show 0≤b by grind);grind
  have c:=cos_diff (sqr_mono (rlL a0) ab) b1 n
  have m1:=rmR (show b-a≤δ*a by grind) (show 0≤b+a by grind)
  have m2:=rmR (show a≤1 by grind) (show 0≤b+a by grind)
  have m3:=rmL (show a*(b+a)≤2 by grind) d0
  grind
theorem gap_enc{s t:Nat→Rat}{a b c d δ:Rat}(h:Enc s a b)(k:Enc t c d)(g:∀ n,s n-t n≤δ):a-d≤δ:=by
  have e:=h.add k.neg
  have:=e.le (Enc.const δ) (fun n=>by have:=g n;show s n + -t n≤δ;grind)
  grind
theorem cosines_nar{v:Vx}{p:Int}{δ:Rat}(hv:v.P)(f1:small1 v.lo)(f2:small1 v.hi)(hn:VN δ v)(d0:0≤δ)(p0:0≤p)(p1:p≤8000) :
    NM (4*δ+32*p2 (-40-p)) (p2 (-2)) (p2 2) (cosinesV (onesV v) p).lo.rv (cosinesV (onesV v) p).hi.rv:=by
  have hl:v.lo.rv≤v.hi.rv:=by
    rcases hn with ⟨a,b⟩|⟨_,n1,_⟩|⟨_,n1,_⟩
    · rw [a,b];exact Rat.le_refl
    · exact n1
    · grind
  have K:=cosines_ok (p:=p) hv f1 f2 hl p0 p1
  have A:=cosineV_iv (t:=oneD v.lo) (p:=p) oneD_p (small_one hv.1 f1) p0 (by omega)
  have B:=cosineV_iv (t:=oneD v.hi) (p:=p) oneD_p (small_one hv.2 f2) p0 (by omega)
  rw [rv_one hv.1] at A
  rw [rv_one hv.2] at B
  obtain ⟨_,A2,A3⟩:=A
  obtain ⟨_,B2,B3⟩:=B
  have w0:=rlL (p2_pos (-40-p))
  have q2:p2 2=4:=by decide +kernel
  have qm:p2 (-2)=1/4:=by decide +kernel
  have aw:=A3.nar.2.2
  have bw:=B3.nar.2.2
  have al:=A3.nar.2.1
  have bl:=B3.nar.2.1
  have ah:=A3.hi
  have bh:=B3.hi
  have m1:=rmL (show (cosineV (oneD v.lo) p).lo.rv≤4 by grind) w0
  have m2:=rmL (show (cosineV (oneD v.hi) p).lo.rv≤4 by grind) w0
  have g:(cosineV (oneD v.lo) p).lo.rv-(cosineV (oneD v.hi) p).hi.rv≤δ∧(cosineV (oneD v.hi) p).lo.rv-(cosineV (oneD v.lo) p).hi.rv≤δ:=by
    rcases hn with ⟨a,b⟩ | n | n
    · rw [a] at A2
      rw [b] at B2
      have:=A2.meets B2
      have:=B2.meets A2
      constructor<;>grind
    · have x:=gap_enc A2 B2 (cos_gap n f2.1 d0)
      have y:=B2.le A2 fun k=>cosS_anti (sqr_mono (rlL n.1) n.2.1) (sqr_le1 f2.1 f2.2) k
      exact ⟨x,by grind⟩
    · have A2':Enc (cosS (-v.lo.rv)) (cosineV (oneD v.lo) p).lo.rv (cosineV (oneD v.lo) p).hi.rv:=by
        rw [show cosS (-v.lo.rv)=cosS v.lo.rv by funext k;rw [cosS_neg]];exact A2
      have B2':Enc (cosS (-v.hi.rv)) (cosineV (oneD v.hi) p).lo.rv (cosineV (oneD v.hi) p).hi.rv:=by
        rw [show cosS (-v.hi.rv)=cosS v.hi.rv by funext k;rw [cosS_neg]];exact B2
      have x:=gap_enc B2' A2' (cos_gap n (by have:=f1.2;grind) d0)
      have y:=A2'.le B2' fun k=>cosS_anti (sqr_mono (rlL n.1) n.2.1) (sqr_le1 (by have:=f1.2;grind) (by have:=f1.1;grind)) k
      exact ⟨by grind,x⟩
  have sl:=span4_lo (cosineV (oneD v.lo) p).lo (cosineV (oneD v.lo) p).hi (cosineV (oneD v.hi) p).lo (cosineV (oneD v.hi) p).hi
  have sh:=span4_hi (cosineV (oneD v.lo) p).lo (cosineV (oneD v.lo) p).hi (cosineV (oneD v.hi) p).lo (cosineV (oneD v.hi) p).hi
  have lo1:(cosinesV (onesV v) p).lo=(spanL (cosineV (oneD v.lo) p).lo [(cosineV (oneD v.lo) p).hi,(cosineV (oneD v.hi) p).lo,(cosineV (oneD v.hi) p).hi]).lo:=by
    unfold cosinesV;split<;>rfl
  have z:zeroV (onesV v)=zeroV v:=by
    unfold zeroV onesV
    show (decide ((oneD v.lo).sgn≤0) && decide (0≤(oneD v.hi).sgn))=_
    rw [one_sgn _ hv.1,one_sgn _ hv.2]
  have wide:(cosinesV (onesV v) p).hi.rv-(cosinesV (onesV v) p).lo.rv≤δ+8*p2 (-40-p):=by
    rw [lo1]
    have mm:=sl.2.2.2.2
    cases h:zeroV v with
    | true =>
      have e:(cosinesV (onesV v) p).hi=mkS 1 0:=by unfold cosinesV;rw [z,h];rfl
      obtain ⟨zl,zh⟩:=(zeroV_rv hv).1 h
      have zz:v.lo.rv=0∧v.hi.rv=0:=by
        rcases hn with n | ⟨n0,_,_⟩|⟨n0,_,_⟩
        · exact n
        · exfalso;grind
        · exfalso;grind
      rw [e,show (mkS 1 0).rv=1 from rv_int 1]
      rw [zz.1] at A2
      rw [zz.2] at B2
      have ca:=(cosS_bd (t:=0) (by decide) (by decide) A2).2
      have cb:=(cosS_bd (t:=0) (by decide) (by decide) B2).2
      rcases mm with e | e | e | e<;>rw [e]<;>grind
    | false =>
      have e:(cosinesV (onesV v) p).hi=(spanL (cosineV (oneD v.lo) p).lo [(cosineV (oneD v.lo) p).hi,(cosineV (oneD v.hi) p).lo,(cosineV (oneD v.hi) p).hi]).hi:=by
        unfold cosinesV;rw [z,h];rfl
      rw [e]
      have MM:=sh.2.2.2.2
      rcases MM with e | e | e | e<;>rw [e]<;>rcases mm with e' | e' | e' | e'<;>rw [e']<;>grind
  have lo:=K.lo
  have hi:=K.hi
  have le:=K.le
  rw [qm] at lo
  have m3:=rmL lo.1 (show 0≤4*δ+32*p2 (-40-p) by grind)
  exact ⟨p2_pos _,K.lo.1,K.hi.2,by grind,le,by grind⟩
theorem Enc.mid{s t u:Nat→Rat}{a b c d:Rat}(h:Enc s a b)(k:Enc t c d)(h1:∀ n,s n≤u n)(h2:∀ n,u n≤t n):Enc u a d:=fun e he=>by
  obtain ⟨N,x⟩:=h e he
  obtain ⟨M,y⟩:=k e he
  refine ⟨max N M,fun n hn=>?_⟩
  have:=x n (by omega)
  have:=y n (by omega)
  have:=h1 n
  have:=h2 n
  constructor<;>grind
theorem sineH_enc{t:Dx}{p:Int}(ht:0≤t.m)(h1:small1 t)(p0:0≤p)(p1:p≤60000):(sineH t p).P∧Enc (sinS t.rv) (sineH t p).lo.rv (sineH t p).hi.rv:=by
  by_cases h0:t.rv=0
  · have e:sineH t p=zeroIv:=by rw [sineH,if_pos ((sine_zero ht).2 h0)]
    have z:zeroIv.lo.rv=0:=zero_rv
    have z':zeroIv.hi.rv=0:=zero_rv
    rw [e,h0,z,z']
    exact ⟨⟨Int.le_refl _,Int.le_refl _⟩,enc_sin0⟩
  · obtain ⟨a1,a2⟩:=rv_amt ht
    have pos:0<(t.m:Rat)*p2 t.e:=by
      rcases (show 0<t.rv∨t.rv<0 by grind) with s | s
      · rw [←a1 (by grind)];exact s
      · rw [←a2 (by grind)];grind
    obtain ⟨k,k1,_⟩:=log2_ex pos
    have V:=sineH_iv ht h1 h0 k1 p0 p1
    exact ⟨V.1,V.2.1⟩
theorem cos_over{v:Vx}(hv:v.P)(f1:small1 v.lo)(f2:small1 v.hi){a b c d lo hi:Rat}(A:Enc (cosS v.lo.rv) a b)(B:Enc (cosS v.hi.rv) c d)(l1:lo≤a)(l2:lo≤c)(h:(zeroV v=true∧hi=1)∨(zeroV v=false∧b≤hi∧d≤hi)){x:Rat}(x1:v.lo.rv≤x)(x2:x≤v.hi.rv):Enc (cosS x) lo hi:=by
  have b1:x*x≤1:=sqr_le1 (by have:=f2.1;grind) (by have:=f1.2;grind)
  have c1:v.lo.rv*v.lo.rv≤1:=sqr_le1 f1.1 f1.2
  have c2:v.hi.rv*v.hi.rv≤1:=sqr_le1 f2.1 f2.2
  have x0:0≤x*x:=by
    rcases (show 0≤x∨x≤0 by grind) with g | g
    · exact rmN g g
    · have:=rmN (show 0≤-x by grind) (show 0≤-x by grind);grind
  have Z:∀ n,cosS x n≤cosS 0 n:=fun n=>cosS_anti (by rw [Rat.zero_mul];exact x0) b1 n
  have low:∃ s e,Enc s lo e∧∀ n,s n≤cosS x n:=by
    rcases (show 0≤x∨x≤0 by grind) with g | g
    · exact ⟨_,d,B.wide l2 Rat.le_refl,fun n=>cosS_anti (sqr_mono g x2) c2 n⟩
    · exact ⟨_,b,A.wide l1 Rat.le_refl,fun n=>cosS_anti (sqr_mono' g x1) c1 n⟩
  obtain ⟨s,e,E,Es⟩:=low
  rcases h with ⟨hz,rfl⟩|⟨hz,h1,h2⟩
  · exact E.mid enc_cos0 Es Z
  · rcases (show 0<v.lo.rv∨v.hi.rv<0 by
      have:=fun k=>(by rw [(zeroV_rv hv).2 k] at hz;exact absurd hz (by simp):False)
      grind) with g | g
    · exact E.mid (A.wide Rat.le_refl h1) Es fun n=>cosS_anti (sqr_mono (rlL g) x1) b1 n
    · exact E.mid (B.wide Rat.le_refl h2) Es fun n=>cosS_anti (sqr_mono' (rlL g) x2) b1 n
theorem sineV_enc{t:Dx}{p:Int}(ht:0≤t.m)(h1:small1 t)(p0:0≤p)(p1:p≤60000):(sineV t p).P∧Enc (sinS t.rv) (sineV t p).lo.rv (sineV t p).hi.rv:=by
  by_cases h0:t.rv=0
  · have e:sineV t p=zeroIv:=by rw [sineV,if_pos ((sine_zero ht).2 h0)]
    have z:zeroIv.lo.rv=0:=zero_rv
    have z':zeroIv.hi.rv=0:=zero_rv
    rw [e,h0,z,z']
    exact ⟨⟨Int.le_refl _,Int.le_refl _⟩,enc_sin0⟩
  · obtain ⟨a1,a2⟩:=rv_amt ht
    have pos:0<(t.m:Rat)*p2 t.e:=by
      rcases (show 0<t.rv∨t.rv<0 by grind) with s | s
      · rw [←a1 (by grind)];exact s
      · rw [←a2 (by grind)];grind
    obtain ⟨k,k1,_⟩:=log2_ex pos
    have V:=sineV_iv ht h1 h0 k1 p0 p1
    exact ⟨V.1,V.2.1⟩
theorem sinesV_enc{v:Vx}{p:Int}(hv:v.P)(f1:small1 v.lo)(f2:small1 v.hi)(p0:0≤p)(p1:p≤60000):(sinesV (onesV v) p).P∧∀ x,v.lo.rv≤x→x≤v.hi.rv→Enc (sinS x) (sinesV (onesV v) p).lo.rv (sinesV (onesV v) p).hi.rv:=by
  have A:=sineV_enc (t:=oneD v.lo) (p:=p) oneD_p (small_one hv.1 f1) p0 p1
  have B:=sineV_enc (t:=oneD v.hi) (p:=p) oneD_p (small_one hv.2 f2) p0 p1
  rw [rv_one hv.1] at A
  rw [rv_one hv.2] at B
  exact ⟨⟨A.1.1,B.1.2⟩,fun x x1 x2=>A.2.mid B.2 (fun n=>sinS_mono f1.2 x1 (Rat.le_trans x2 f2.1) n) fun n=>sinS_mono (Rat.le_trans f1.2 x1) x2 f2.1 n⟩
theorem cosinesV_enc{v:Vx}{p:Int}(hv:v.P)(f1:small1 v.lo)(f2:small1 v.hi)(hl:v.lo.rv≤v.hi.rv)(p0:0≤p)(p1:p≤8000):(cosinesV (onesV v) p).P∧∀ x,v.lo.rv≤x→x≤v.hi.rv→Enc (cosS x) (cosinesV (onesV v) p).lo.rv (cosinesV (onesV v) p).hi.rv:=by
  have K:=cosines_ok (p:=p) hv f1 f2 hl p0 p1
  have A:=cosineV_iv (t:=oneD v.lo) (p:=p) oneD_p (small_one hv.1 f1) p0 (by omega)
  have B:=cosineV_iv (t:=oneD v.hi) (p:=p) oneD_p (small_one hv.2 f2) p0 (by omega)
  rw [rv_one hv.1] at A
  rw [rv_one hv.2] at B
  have sl:=span4_lo (cosineV (oneD v.lo) p).lo (cosineV (oneD v.lo) p).hi (cosineV (oneD v.hi) p).lo (cosineV (oneD v.hi) p).hi
  have sh:=span4_hi (cosineV (oneD v.lo) p).lo (cosineV (oneD v.lo) p).hi (cosineV (oneD v.hi) p).lo (cosineV (oneD v.hi) p).hi
  have lo1:(cosinesV (onesV v) p).lo=(spanL (cosineV (oneD v.lo) p).lo [(cosineV (oneD v.lo) p).hi,(cosineV (oneD v.hi) p).lo,(cosineV (oneD v.hi) p).hi]).lo:=by
    unfold cosinesV;split<;>rfl
  have z:zeroV (onesV v)=zeroV v:=by
    unfold zeroV onesV
    show (decide ((oneD v.lo).sgn≤0) && decide (0≤(oneD v.hi).sgn))=_
    rw [one_sgn _ hv.1,one_sgn _ hv.2]
  refine ⟨K.xp,fun x x1 x2=>cos_over hv f1 f2 A.2.1 B.2.1 (by rw [lo1];exact sl.1) (by rw [lo1];exact sl.2.2.1) ?_ x1 x2⟩
  cases h:zeroV v with
  | true =>
    have e:(cosinesV (onesV v) p).hi=mkS 1 0:=by unfold cosinesV;rw [z,h];rfl
    exact .inl ⟨rfl,by rw [e];exact rv_int 1⟩
  | false =>
    have e:(cosinesV (onesV v) p).hi=(spanL (cosineV (oneD v.lo) p).lo [(cosineV (oneD v.lo) p).hi,(cosineV (oneD v.hi) p).lo,(cosineV (oneD v.hi) p).hi]).hi:=by
      unfold cosinesV;rw [z,h];rfl
    exact .inr ⟨rfl,by rw [e];exact sh.2.1,by rw [e];exact sh.2.2.2.1⟩
def Thin(δ:Rat)(v:Vx):Prop:=v=zeroIv∨NarV δ v
structure PairOk (v:Vx) (η:Rat) (S C:Vx):Prop where
  sp:S.P
  cp:C.P
  sf:OneV S
  cf:OneV C
  sr:rightV S=true
  cr:rightV C=true
  st:Thin η S
  s32:-32≤S.lo.rv∧S.hi.rv≤32
  cn:Nar η C.lo.rv C.hi.rv
  c0:1/8≤C.lo.rv
  c1:C.hi.rv≤8
  z:v.lo.rv=0→v.hi.rv=0→S=zeroIv
  sin:∀ x,v.lo.rv≤x→x≤v.hi.rv→Enc (sinS x) S.lo.rv S.hi.rv
  cos:∀ x,v.lo.rv≤x→x≤v.hi.rv→Enc (cosS x) C.lo.rv C.hi.rv
theorem trim_enc{s:Nat→Rat}{v:Vx}{p:Int}(hv:v.P)(hp:1≤p)(h:Enc s v.lo.rv v.hi.rv):Enc s (trimV v p).lo.rv (trimV v p).hi.rv:=by
  obtain ⟨b1,b2⟩:=trim_best hv hp
  exact h.wide b1.2.1 b2.2.1
theorem nar_v{δ L H:Rat}{v:Vx}(h:VM δ L H v):NarV δ v:=h.elim (fun h=>.inl h.nar) fun h=>.inr h.nar
theorem pair_ok{v:Vx}{q:Int}{δ:Rat}(hv:v.P)(hr:rightV v=true)(h1:faultD v.lo q=0)(h2:faultD v.hi q=0)(hn:VN δ v)(d0:0≤δ)(hd:δ≤p2 (-q)) :
    (bothR v q=((zeroIv,zeroIv),3)∧rightV (trimV (sinesV (onesV v) q) (q+8))=false)∨bothR v q=((trimV (sinesV (onesV v) q) (q+8),trimV (cosinesV (onesV v) q) (q+8)),0)∧PairOk v (p2 (5-q)) (trimV (sinesV (onesV v) q) (q+8)) (trimV (cosinesV (onesV v) q) (q+8)):=by
  obtain ⟨f1,p0,p1,m1⟩:=fault0 hv.1 h1
  obtain ⟨f2,_,_,m2⟩:=fault0 hv.2 h2
  have hl:=right_le hr
  have eR:bothR v q=both2 (cutR (sinesV (onesV v) q) q) (cutR (cosinesV (onesV v) q) q):=by
    unfold bothR checkR
    rw [if_pos hr,if_pos rfl,if_pos h1,if_pos h2]
  have K:=cosines_ok (p:=q) hv m1 m2 hl (by omega) (by omega)
  have C:=cos_cut K (by omega) (by omega)
  have c2:cutR (cosinesV (onesV v) q) q=(trimV (cosinesV (onesV v) q) (q+8),0):=by rw [cutR,if_pos C.1]
  have e1:eps (q+8)=p2 (-7-q):=by unfold eps;congr 1;omega
  have e4:4*eps (q+8)≤1:=by
    rw [e1]
    have:=p2_le (show -7-q≤-2 by omega)
    have e:p2 (-2)=1/4:=by decide +kernel
    rw [e] at this;grind
  have q0:=p2_pos (-q)
  have k36:p2 (-36-q)≤p2 (-q)/8:=by
    have:=p2_le (show -36-q≤-3 + -q by omega)
    rw [p2_add] at this
    have e:p2 (-3)=1/8:=by decide +kernel
    rw [e] at this;grind
  have k40:p2 (-40-q)≤p2 (-q)/64:=by
    have:=p2_le (show -40-q≤-6 + -q by omega)
    rw [p2_add] at this
    have e:p2 (-6)=1/64:=by decide +kernel
    rw [e] at this;grind
  have k7:p2 (-7-q)≤p2 (-q)/64:=by
    have:=p2_le (show -7-q≤-6 + -q by omega)
    rw [p2_add] at this
    have e:p2 (-6)=1/64:=by decide +kernel
    rw [e] at this;grind
  have k5:p2 (5-q)=32*p2 (-q):=by
    rw [show 5-q=5 + -q by omega,p2_add]
    have e:p2 5=32:=by decide +kernel
    rw [e]
  have q8:p2 (-q)≤1/8:=by
    have:=p2_le (show -q≤-3 by omega)
    have e:p2 (-3)=1/8:=by decide +kernel
    rw [e] at this;exact this
  have w36:=rlL (p2_pos (-36-q))
  have w40:=rlL (p2_pos (-40-q))
  cases hS:rightV (trimV (sinesV (onesV v) q) (q+8)) with
  | false =>
    have c1:cutR (sinesV (onesV v) q) q=(zeroIv,3):=by rw [cutR,if_neg (by rw [hS];simp)]
    exact .inl ⟨by rw [eR,c1,c2];rfl,rfl⟩
  | true =>
    have c1:cutR (sinesV (onesV v) q) q=(trimV (sinesV (onesV v) q) (q+8),0):=by rw [cutR,if_pos hS]
    have SE:=sinesV_enc (p:=q) hv m1 m2 (by omega) (by omega)
    have CE:=cosinesV_enc (p:=q) hv m1 m2 hl (by omega) (by omega)
    have CN:=(cosines_nar (p:=q) hv m1 m2 hn d0 (by omega) (by omega)).trim (p:=q+8) (by grind) (by omega) e4 (trim_best K.xp (by omega)).1 (trim_best K.xp (by omega)).2
    have qm:p2 (-2)=1/4:=by decide +kernel
    have q2:p2 2=4:=by decide +kernel
    have zz:v.lo.rv=0→v.hi.rv=0→trimV (sinesV (onesV v) q) (q+8)=zeroIv:=fun a b=>by
      have A:sineV (oneD v.lo) q=zeroIv:=by rw [sineV,if_pos ((sine_zero oneD_p).2 ((rv_one hv.1).trans a))]
      have B:sineV (oneD v.hi) q=zeroIv:=by rw [sineV,if_pos ((sine_zero oneD_p).2 ((rv_one hv.2).trans b))]
      have:sinesV (onesV v) q=zeroIv:=by
        show (⟨(sineV (oneD v.lo) q).lo,(sineV (oneD v.hi) q).hi⟩:Vx)=_
        rw [A,B]
      rw [this,trim_zero _ (by omega)]
    have big:NarV δ v→VM (2*(2*δ+4*p2 (-36-q))+4*eps (q+8)) (p2 (Classical.epsilon (fun A:Int=>p2 A≤v.lo.rv∨p2 A≤-v.hi.rv)-4)/2) (2*p2 4) (trimV (sinesV (onesV v) q) (q+8)):=fun hn=>by
      have hA:∃ A:Int,p2 A≤v.lo.rv∨p2 A≤-v.hi.rv:=by
        rcases hn with ⟨n0,_,_⟩|⟨n0,_,_⟩
        · obtain ⟨k,k1,_⟩:=log2_ex n0
          exact ⟨k,.inl k1⟩
        · obtain ⟨k,k1,_⟩:=log2_ex n0
          exact ⟨k,.inr k1⟩
      have SB:=sines_nar (p:=q) hv m1 m2 hn (Classical.epsilon_spec hA) d0 (by grind) (by omega) (by omega)
      exact SB.vm.trim SB.p (p:=q+8) (by grind) (by omega) e4
    refine .inr ⟨by rw [eR,c1,c2];rfl,trimV_p _ _,trimV_p _ _,⟨cutD_f SE.1.1,cutD_f SE.1.2⟩,⟨cutD_f K.xp.1,cutD_f K.xp.2⟩,hS,C.1,?_,?_,CN.nar.mono (by rw [e1,k5];grind),by have:=CN.lo;rw [qm] at this;grind,by have:=CN.hi;rw [q2] at this;grind,zz,fun x x1 x2=>trim_enc SE.1 (by omega) (SE.2 x x1 x2),fun x x1 x2=>trim_enc CE.1 (by omega) (CE.2 x x1 x2)⟩
    · rcases hn with ⟨a,b⟩ | hn
      · exact .inl (zz a b)
      · exact .inr (nar_v (big hn)|>.mono (by rw [e1,k5];grind))
    · rcases hn with ⟨a,b⟩ | hn
      · have z:zeroIv.lo.rv=0:=zero_rv
        have z':zeroIv.hi.rv=0:=zero_rv
        rw [zz a b,z,z'];decide
      · have q4:p2 4=16:=by decide +kernel
        rcases big hn with h | h
        · have a:=h.nar.1;have b:=h.nar.2.1;have c:=h.hi;rw [q4] at c;constructor<;>grind
        · have a:=h.nar.1;have b:=h.nar.2.1;have c:=h.hi;rw [q4] at c;constructor<;>grind
theorem fits_small{z:Dx}(h:OneF z)(hb:z.Bd 32768 64):z.fitsB=true:=by
  have m0:=h.p
  have l:=hb.lo
  have u:=hb.hi
  have w:=ws_len_blen m0
  have g:greatB z.m=false:=by unfold greatB;exact decide_eq_false (by omega)
  unfold Dx.fitsB
  rw [g,decide_eq_true (show -32768≤z.e by omega),decide_eq_true (show z.e≤32768 by omega)];rfl
theorem small_bd{d:Dx}(h:OneF d)(hf:d.fitsB=true)(h1:-32≤d.rv)(h2:d.rv≤32):d.Bd 32768 8:=by
  have b:=fits_bd hf
  refine ⟨by omega,by omega,b.lo,?_⟩
  by_cases z:d.m=0
  · rw [h.zero z]
    show (0:Int)+(blen (val []):Int)≤8
    decide
  · have m0:=h.p
    have g:=amt_ge (m:=d.m) (e:=d.e) (by omega)
    obtain ⟨r1,r2⟩:=rv_amt h.p
    have q5:p2 5=32:=by decide +kernel
    have:p2 (d.e+(blen d.m:Int)-1)≤p2 5:=by
      rw [q5]
      rcases (show 0≤d.rv∨d.rv≤0 by grind) with s | s
      · have:=r1 s;grind
      · have:=r2 s;grind
    have:=p2_lt_iff.1 (show p2 (d.e+(blen d.m:Int)-1)<p2 6 by
      have e:p2 6=64:=by decide +kernel
      rw [e];rw [q5] at this;grind)
    omega
structure Half (η:Rat) (X:Vx) (s:Nat→Rat):Prop where
  p:X.P
  f:OneV X
  r:rightV X=true
  t:Thin η X
  b:-32≤X.lo.rv∧X.hi.rv≤32
  e:Enc s X.lo.rv X.hi.rv
theorem turn_rv{v:Vx}(h:v.P):(turnV v).lo.rv = -v.hi.rv∧(turnV v).hi.rv = -v.lo.rv:=⟨rv_neg h.2,rv_neg h.1⟩
theorem turn_zero:turnV zeroIv=zeroIv:=by
  have:negD ⟨false,[],0⟩=⟨false,[],0⟩:=mkD_zero _ _
  show (⟨negD ⟨false,[],0⟩,negD ⟨false,[],0⟩⟩:Vx)=_
  rw [this];rfl
theorem NarV.turn{δ:Rat}{v:Vx}(hv:v.P)(h:NarV δ v):NarV δ (turnV v):=by
  obtain ⟨r1,r2⟩:=turn_rv hv
  unfold NarV
  rw [r1,r2,Rat.neg_neg,Rat.neg_neg]
  exact h.symm
theorem Half.turn{η:Rat}{X:Vx}{s:Nat→Rat}(h:Half η X s):Half η (turnV X) (fun n=>-s n):=by
  obtain ⟨r1,r2⟩:=turn_rv h.p
  have f:=right_fits h.r
  have le:=right_le h.r
  refine ⟨⟨negD_p,negD_p⟩,⟨negD_f h.p.2,negD_f h.p.1⟩,right_of (fits_neg h.f.2 f.2.1) (fits_neg h.f.1 f.1) (by rw [r1,r2];grind),?_,by rw [r1,r2];have:=h.b;constructor<;>grind,by rw [r1,r2];exact h.e.neg⟩
  rcases h.t with e | n
  · exact .inl (by rw [e,turn_zero])
  · exact .inr (n.turn h.p)
structure Fin1 (p:Int) (Y:Vx):Prop where
  q:Y.P
  f:OneV Y
  r:rightV Y=true
  n:narrowB Y p=true
theorem vm_nar{δ:Rat}{v:Vx}(h:NarV δ v):∃ L H,VM δ L H v:=by
  rcases h with h | h
  · exact ⟨_,_,.inl ⟨h.1,Rat.le_refl,Rat.le_refl,h⟩⟩
  · exact ⟨_,_,.inr ⟨h.1,Rat.le_refl,Rat.le_refl,h⟩⟩
theorem narrow_zero{p:Int}(p0:0≤p):narrowB zeroIv p=true:=by
  have n:narrowV zeroIv p=true:=by unfold narrowV;rw [if_neg (by decide),if_pos (by decide)]
  rw [narrowB,zero_right,n,show leI 0 p=true from leI_true.2 p0];rfl
theorem fin_ok{X:Vx}{p:Int}{η:Rat}(hp:X.P)(hf:OneV X)(hr:rightV X=true)(ht:Thin η X)(hb:-32≤X.lo.rv∧X.hi.rv≤32)(h0:0≤η)(p0:8≤p)(hd:2*η+4*p2 (-7-p)≤p2 (-p)):Fin1 p (trimV X (p+8)):=by
  have f:=right_fits hr
  have le:=right_le hr
  have e1:eps (p+8)=p2 (-7-p):=by unfold eps;congr 1;omega
  have e4:4*eps (p+8)≤1:=by
    rw [e1]
    have:=p2_le (show -7-p≤-2 by omega)
    have e:p2 (-2)=1/4:=by decide +kernel
    rw [e] at this;grind
  have F:OneV (trimV X (p+8)):=⟨cutD_f hp.1,cutD_f hp.2⟩
  have B1:=(small_bd hf.1 f.1 hb.1 (by grind)).cut (p:=p+8) (up:=false) hp.1 (by omega)
  have B2:=(small_bd hf.2 f.2.1 (by grind) hb.2).cut (p:=p+8) (up:=true) hp.2 (by omega)
  obtain ⟨b1,b2⟩:=trim_best hp (p:=p+8) (by omega)
  have R:rightV (trimV X (p+8))=true:=right_of (fits_small F.1 (B1.mono (by omega) (by omega))) (fits_small F.2 (B2.mono (by omega) (by omega))) (by
    have:=b1.2.1;have:=b2.2.1;grind)
  refine ⟨trimV_p _ _,F,R,?_⟩
  rcases ht with e | n
  · rw [e,trim_zero _ (by omega)];exact narrow_zero (by omega)
  · obtain ⟨L,H,m⟩:=vm_nar (n.trim hp h0 (p:=p+8) (by omega) e4)
    exact narrow_of (trimV_p _ _) R (by omega) m (by rw [e1];exact hd)
theorem Fin1.encl{p:Int}{Y U:Vx}(h:Fin1 p Y)(h1:Y.lo.rv≤U.hi.rv)(h2:U.lo.rv≤Y.hi.rv):enclB Y U p=true:=by
  have c:canonV Y=Y:=by
    show (⟨oneD _,oneD _⟩:Vx)=_
    rw [oneD_id h.f.1,oneD_id h.f.2]
  rw [enclB,h.r,c,sameV_refl2,h.n,leI_true.2 (cmpD_le.2 h1),leI_true.2 (cmpD_le.2 h2)];rfl
theorem inv_anti{a b:Rat}(a0:0<a)(h:a≤b):b⁻¹≤a⁻¹∧0<b⁻¹:=by
  have b0:0<b:=by grind
  have pa:=Rat.inv_pos.2 a0
  have pb:=Rat.inv_pos.2 b0
  have ea:=Rat.inv_mul_cancel a (by grind)
  have eb:=Rat.inv_mul_cancel b (by grind)
  have m:=rmL h (rlL (Rat.mul_pos pa pb))
  refine ⟨?_,pb⟩
  have e1:a⁻¹*b⁻¹*a=b⁻¹:=by rw [Rat.mul_comm a⁻¹,Rat.mul_assoc,ea,Rat.mul_one]
  have e2:a⁻¹*b⁻¹*b=a⁻¹:=by rw [Rat.mul_assoc,eb,Rat.mul_one]
  grind
theorem quo_nar{δ η a b c d x y x' y':Rat}(h:Nar δ a b)(k:Nar η c d)(d0:0≤δ)(n0:0≤η)(x1:a≤x)(x2:x≤b)(y1:c≤y)(y2:y≤d)(x1':a≤x')(x2':x'≤b)(y1':c≤y')(y2':y'≤d) :
    0<x*y⁻¹∧x' * y'⁻¹≤x*y⁻¹+(δ+η+δ*η)*(x*y⁻¹):=by
  obtain ⟨a0,ab,bd⟩:=h
  obtain ⟨c0,cd,dd⟩:=k
  have yp:0<y:=by grind
  have yp':0<y':=by grind
  have iy:=Rat.inv_pos.2 yp
  have iy':=Rat.inv_pos.2 yp'
  have ey:=Rat.inv_mul_cancel y (by grind)
  have ey':=Rat.inv_mul_cancel y' (by grind)
  refine ⟨Rat.mul_pos (by grind) iy,?_⟩
  have m1:=rmL x1 d0
  have m2:=rmL y1' n0
  have t1:x'≤x+δ*x:=by grind
  have t2:y≤y' + η*y':=by grind
  have t3:=rmR t1 (rlL yp)
  have t4:=rmL t2 (show 0≤x+δ*x by have:=rmN d0 (show 0≤x by grind);grind)
  have t5:=rmR (show x' * y≤(x+δ*x)*(y' + η*y') by grind) (rlL (Rat.mul_pos iy iy'))
  have e1:x' * y*(y⁻¹*y'⁻¹)=x' * y'⁻¹:=by
    rw [show x' * y*(y⁻¹*y'⁻¹)=x' * y'⁻¹*(y⁻¹*y) by grind,ey,Rat.mul_one]
  have e2:(x+δ*x)*(y' + η*y')*(y⁻¹*y'⁻¹)=(x*y⁻¹+(δ+η+δ*η)*(x*y⁻¹))*(y'⁻¹*y'):=by grind
  rw [e1,e2,ey',Rat.mul_one] at t5
  exact t5
theorem quo_up_dn{ζ q1 q2 l h:Rat}{p:Int}(hp:1≤p)(he:4*eps p≤1)(z0:0≤ζ)(q0:0<q1)(hl:Dn p q1 l)(hh:Up p q2 h)(le:l≤h)(hq:q2≤q1+ζ*q1)(q20:0<q2):Nar (2*ζ+4*eps p) l h:=by
  obtain ⟨r1,r2⟩:=hl.rel hp q0
  have r3:=hh.rel hp q20
  have e0:=eps_pos p
  have m1:=rmL hq (rlL e0)
  have z1:=rmN z0 (rlL q0)
  have m2:=rmR he (rlL q0)
  have m3:=rmR he z1
  have m4:=rmL r1 (show 0≤2*ζ+4*eps p by grind)
  have m5:=rmL m2 (rlL e0)
  have m6:=rmN (rlL e0) (rlL q0)
  exact ⟨r2,le,by grind⟩
theorem pair_vm{v:Vx}{q A:Int}{δ:Rat}(hv:v.P)(h1:faultD v.lo q=0)(h2:faultD v.hi q=0)(hn:NarV δ v)(hA:p2 A≤v.lo.rv∨p2 A≤-v.hi.rv)(a0:-20000≤A)(d0:0≤δ)(hd:δ≤p2 (-q)) :
    rightV (trimV (sinesV (onesV v) q) (q+8))=true∧VM (p2 (5-q)) (p2 (A-5)) (p2 5) (trimV (sinesV (onesV v) q) (q+8)):=by
  obtain ⟨f1,p0,p1,m1⟩:=fault0 hv.1 h1
  obtain ⟨f2,_,_,m2⟩:=fault0 hv.2 h2
  have e1:eps (q+8)=p2 (-7-q):=by unfold eps;congr 1;omega
  have e4:4*eps (q+8)≤1:=by
    rw [e1]
    have:=p2_le (show -7-q≤-2 by omega)
    have e:p2 (-2)=1/4:=by decide +kernel
    rw [e] at this;grind
  have k36:p2 (-36-q)≤p2 (-q)/8:=by
    have:=p2_le (show -36-q≤-3 + -q by omega)
    rw [p2_add] at this
    have e:p2 (-3)=1/8:=by decide +kernel
    rw [e] at this;grind
  have k7:p2 (-7-q)≤p2 (-q)/64:=by
    have:=p2_le (show -7-q≤-6 + -q by omega)
    rw [p2_add] at this
    have e:p2 (-6)=1/64:=by decide +kernel
    rw [e] at this;grind
  have k5:p2 (5-q)=32*p2 (-q):=by
    rw [show 5-q=5 + -q by omega,p2_add]
    have e:p2 5=32:=by decide +kernel
    rw [e]
  have q8:p2 (-q)≤1/8:=by
    have:=p2_le (show -q≤-3 by omega)
    have e:p2 (-3)=1/8:=by decide +kernel
    rw [e] at this;exact this
  have w36:=rlL (p2_pos (-36-q))
  have q0:=p2_pos (-q)
  have SB:=sines_nar (p:=q) hv m1 m2 hn hA d0 (by grind) (by omega) (by omega)
  have V:=SB.vm.trim SB.p (p:=q+8) (by grind) (by omega) e4
  have l1:p2 (A-4)/2=p2 (A-5):=by have:=p2_half (A-5);rw [show A-5+1=A-4 by omega] at this;grind
  have l2:2*p2 4=p2 5:=p2_half 4
  rw [l1,l2] at V
  have V':=V.mono (η:=p2 (5-q)) (by rw [e1,k5];grind) (p2_pos _) Rat.le_refl Rat.le_refl
  exact ⟨cut_right SB.p V' (by omega) (by omega) (by omega) (by omega),V'⟩
theorem inv_neg1{b:Rat}(hb:b≠0):(-b)⁻¹ = -b⁻¹:=by
  have e:=Rat.inv_mul_cancel b hb
  have f:=Rat.inv_mul_cancel (-b) (by grind)
  have g:(-b)⁻¹=(-b)⁻¹*(b⁻¹*b):=by rw [e,Rat.mul_one]
  have h:(-b)⁻¹*(b⁻¹*b) = -((-b)⁻¹*(-b)*b⁻¹):=by grind
  rw [g,h,f,Rat.one_mul]
theorem p2_inv(a:Int):(p2 a)⁻¹=p2 (-a):=by
  have e:=Rat.inv_mul_cancel (p2 a) (by have:=p2_pos a;grind)
  have f:=p2_neg a
  have g:(p2 a)⁻¹*(p2 (-a)*p2 a)=(p2 a)⁻¹:=by rw [f,Rat.mul_one]
  have h:(p2 a)⁻¹*(p2 (-a)*p2 a)=p2 (-a)*((p2 a)⁻¹*p2 a):=by grind
  rw [←g,h,e,Rat.mul_one]
theorem quo_size{A B C D:Int}{x y:Rat}(x1:p2 A≤x)(x2:x≤p2 B)(y1:p2 C≤y)(y2:y≤p2 D):p2 (A-D)≤x*y⁻¹∧x*y⁻¹≤p2 (B-C):=by
  have a0:=p2_pos A
  have c0:=p2_pos C
  obtain ⟨i1,i0⟩:=inv_anti (show 0<y by grind) y2
  obtain ⟨j1,j0⟩:=inv_anti c0 y1
  rw [p2_inv] at i1 i0 j1
  have m1:=rmR x1 (rlL i0)
  have m2:=rmL i1 (show 0≤x by grind)
  have m3:=rmL j1 (show 0≤x by grind)
  have m4:=rmR x2 (rlL (p2_pos (-C)))
  rw [←p2_add] at m1 m4
  exact ⟨by rw [show A-D=A + -D by omega];grind,by rw [show B-C=B + -C by omega];grind⟩
theorem quo_nm{ζ l h q1 q2:Rat}{A B p:Int}(hp:1≤p)(he:4*eps p≤1)(z0:0≤ζ)(h1:p2 A≤q1)(h2:q2≤p2 B)(hl:Dn p q1 l)(hh:Up p q2 h)(le:l≤h)(hq:q2≤q1+ζ*q1)(q20:0<q2):NM (2*ζ+4*eps p) (p2 (A-1)) (p2 (B+1)) l h:=by
  have a0:=p2_pos A
  have r1:=(hl.rel hp (show 0<q1 by grind)).1
  have r2:=hh.rel hp q20
  have m1:=rmR he (show 0≤q1 by grind)
  have m2:=rmR he (rlL q20)
  have d1:=p2_half (A-1)
  rw [show A-1+1=A by omega] at d1
  have d2:=p2_half B
  exact ⟨p2_pos _,by grind,by grind,quo_up_dn hp he z0 (by grind) hl hh le hq q20⟩
theorem div_vm{X Z:Vx}{δ η:Rat}{A B C D p:Int}(hX:X.P)(hZ:Z.P)(hx:VM δ (p2 A) (p2 B) X)(hz:VM η (p2 C) (p2 D) Z)(d0:0≤δ)(n0:0≤η)(hp:1≤p)(he:4*eps p≤1) :
    (divV X Z p).lo.rv≤(divV X Z p).hi.rv∧Off0 Z∧VM (2*(δ+η+δ*η)+4*eps p) (p2 (A-D-1)) (p2 (B-C+1)) (divV X Z p):=by
  have zle:=vm_le hz
  have off:Off0 Z:=by
    rcases hz with h | h
    · exact .inl h.nar.1
    · exact .inr (by have:=h.nar.1;grind)
  have ze:0≤δ+η+δ*η:=by have:=rmN d0 n0;grind
  obtain ⟨⟨a,b,k1,e1⟩,a',b',k2,e2⟩:=div_at X Z p
  have b1:=k1.best hX hZ off zle hp
  have b2:=k2.best hX hZ off zle hp
  have le:(divV X Z p).lo.rv≤(divV X Z p).hi.rv:=by
    have:=(div_lo X Z p k1).2
    have x1:=b1.2.1.2.1
    have x2:=b1.2.2.2.1
    rw [e1];grind
  refine ⟨le,off,?_⟩
  obtain ⟨bn,bD,_⟩:=b1
  obtain ⟨bn',_,bU⟩:=b2
  rw [←e1] at bD
  rw [←e2] at bU
  obtain ⟨ca,cb⟩:=k1
  obtain ⟨ca',cb'⟩:=k2
  have sx:(∀ d:Dx,d=X.lo∨d=X.hi→X.lo.rv≤d.rv∧d.rv≤X.hi.rv):=fun d h=>by
    have:=vm_le hx
    rcases h with e | e<;>rw [e]<;>exact ⟨by grind,by grind⟩
  have sz:(∀ d:Dx,d=Z.lo∨d=Z.hi→Z.lo.rv≤d.rv∧d.rv≤Z.hi.rv):=fun d h=>by
    rcases h with e | e<;>rw [e]<;>exact ⟨by grind,by grind⟩
  obtain ⟨a1,a2⟩:=sx a ca
  obtain ⟨a1',a2'⟩:=sx a' ca'
  obtain ⟨c1,c2⟩:=sz b cb
  obtain ⟨c1',c2'⟩:=sz b' cb'
  rcases hx with h | h<;>rcases hz with k | k
  · have q:=quo_nar h.nar k.nar d0 n0 a1 a2 c1 c2 a1' a2' c1' c2'
    have q':=(quo_nar h.nar k.nar d0 n0 a1' a2' c1' c2' a1 a2 c1 c2).1
    have s1:=(quo_size (A:=A) (B:=B) (C:=C) (D:=D) (x:=a.rv) (y:=b.rv) (by have:=h.lo;grind) (by have:=h.hi;grind) (by have:=k.lo;grind) (by have:=k.hi;grind)).1
    have s2:=(quo_size (A:=A) (B:=B) (C:=C) (D:=D) (x:=a'.rv) (y:=b'.rv) (by have:=h.lo;grind) (by have:=h.hi;grind) (by have:=k.lo;grind) (by have:=k.hi;grind)).2
    exact .inl (quo_nm hp he ze s1 s2 bD bU le q.2 q')
  · have q:=quo_nar h.nar k.nar d0 n0 (x:=a'.rv) (y:=-b'.rv) (x':=a.rv) (y':=-b.rv) a1' a2' (by grind) (by grind) a1 a2 (by grind) (by grind)
    have q':=(quo_nar h.nar k.nar d0 n0 (x:=a.rv) (y:=-b.rv) (x':=a'.rv) (y':=-b'.rv) a1 a2 (by grind) (by grind) a1' a2' (by grind) (by grind)).1
    have s1:=(quo_size (A:=A) (B:=B) (C:=C) (D:=D) (x:=a'.rv) (y:=-b'.rv) (by have:=h.lo;grind) (by have:=h.hi;grind) (by have:=k.lo;grind) (by have:=k.hi;grind)).1
    have s2:=(quo_size (A:=A) (B:=B) (C:=C) (D:=D) (x:=a.rv) (y:=-b.rv) (by have:=h.lo;grind) (by have:=h.hi;grind) (by have:=k.lo;grind) (by have:=k.hi;grind)).2
    rw [inv_neg1 bn'] at q s1
    rw [inv_neg1 bn] at q q' s2
    refine .inr (quo_nm hp he ze s1 s2 ?_ ?_ (by grind) q.2 q')
    · have:=bU.neg;rwa [show a'.rv * -b'.rv⁻¹ = -(a'.rv*b'.rv⁻¹) by grind]
    · have:=bD.neg;rwa [show a.rv * -b.rv⁻¹ = -(a.rv*b.rv⁻¹) by grind]
  · have q:=quo_nar h.nar k.nar d0 n0 (x:=-a'.rv) (y:=b'.rv) (x':=-a.rv) (y':=b.rv) (by grind) (by grind) c1' c2' (by grind) (by grind) c1 c2
    have q':=(quo_nar h.nar k.nar d0 n0 (x:=-a.rv) (y:=b.rv) (x':=-a'.rv) (y':=b'.rv) (by grind) (by grind) c1 c2 (by grind) (by grind) c1' c2').1
    have s1:=(quo_size (A:=A) (B:=B) (C:=C) (D:=D) (x:=-a'.rv) (y:=b'.rv) (by have:=h.lo;grind) (by have:=h.hi;grind) (by have:=k.lo;grind) (by have:=k.hi;grind)).1
    have s2:=(quo_size (A:=A) (B:=B) (C:=C) (D:=D) (x:=-a.rv) (y:=b.rv) (by have:=h.lo;grind) (by have:=h.hi;grind) (by have:=k.lo;grind) (by have:=k.hi;grind)).2
    refine .inr (quo_nm hp he ze s1 s2 ?_ ?_ (by grind) q.2 q')
    · have:=bU.neg;rwa [show -a'.rv*b'.rv⁻¹ = -(a'.rv*b'.rv⁻¹) by grind]
    · have:=bD.neg;rwa [show -a.rv*b.rv⁻¹ = -(a.rv*b.rv⁻¹) by grind]
  · have q:=quo_nar h.nar k.nar d0 n0 (x:=-a.rv) (y:=-b.rv) (x':=-a'.rv) (y':=-b'.rv) (by grind) (by grind) (by grind) (by grind) (by grind) (by grind) (by grind) (by grind)
    have q':=(quo_nar h.nar k.nar d0 n0 (x:=-a'.rv) (y:=-b'.rv) (x':=-a.rv) (y':=-b.rv) (by grind) (by grind) (by grind) (by grind) (by grind) (by grind) (by grind) (by grind)).1
    have s1:=(quo_size (A:=A) (B:=B) (C:=C) (D:=D) (x:=-a.rv) (y:=-b.rv) (by have:=h.lo;grind) (by have:=h.hi;grind) (by have:=k.lo;grind) (by have:=k.hi;grind)).1
    have s2:=(quo_size (A:=A) (B:=B) (C:=C) (D:=D) (x:=-a'.rv) (y:=-b'.rv) (by have:=h.lo;grind) (by have:=h.hi;grind) (by have:=k.lo;grind) (by have:=k.hi;grind)).2
    rw [inv_neg1 bn] at q s1
    rw [inv_neg1 bn'] at q q' s2
    have t1:-a.rv * -b.rv⁻¹=a.rv*b.rv⁻¹:=by grind
    have t2:-a'.rv * -b'.rv⁻¹=a'.rv*b'.rv⁻¹:=by grind
    rw [t1] at q s1
    rw [t2] at q q' s2
    exact .inl (quo_nm hp he ze s1 s2 bD bU le q.2 q')
def turnP(k:Int)(b:Vx×Vx):Vx×Vx:=if k=1 then (b.2,turnV b.1) else if k=2 then (turnV b.1,turnV b.2) else if k=3 then (turnV b.2,b.1) else b
theorem Enc.turn{s:Nat→Rat}{U:Vx}(hU:U.P)(h:Enc s U.lo.rv U.hi.rv):Enc (fun n=>-s n) (turnV U).lo.rv (turnV U).hi.rv:=by
  obtain ⟨r1,r2⟩:=turn_rv hU
  rw [r1,r2];exact h.neg
theorem half_encl{η:Rat}{X U:Vx}{s:Nat→Rat}{p:Int}(h:Half η X s)(k:Enc s U.lo.rv U.hi.rv)(p0:8≤p)(e0:0≤η)(he:η≤p2 (-19-p)):enclB (trimV X (p+8)) U p=true:=by
  have k1:p2 (-7-p)≤p2 (-p)/64:=by
    have:=p2_le (show -7-p≤-6 + -p by omega)
    rw [p2_add] at this
    have e:p2 (-6)=1/64:=by decide +kernel
    rw [e] at this;grind
  have k2:p2 (-19-p)≤p2 (-p)/64:=by
    have:=p2_le (show -19-p≤-6 + -p by omega)
    rw [p2_add] at this
    have e:p2 (-6)=1/64:=by decide +kernel
    rw [e] at this;grind
  have q:=p2_pos (-p)
  have F:=fin_ok h.p h.f h.r h.t h.b e0 p0 (by grind)
  have E:=trim_enc h.p (p:=p+8) (by omega) h.e
  exact F.encl (E.meets k) (k.meets E)
theorem trim_in2{v:Vx}{p:Int}{x:Rat}(hv:v.P)(hp:1≤p)(h:InV v x):InV (trimV v p) x:=by
  obtain ⟨b1,b2⟩:=trim_best hv hp
  have:=b1.2.1
  have:=b2.2.1
  exact ⟨by have:=h.1;grind,by have:=h.2;grind⟩
theorem quo_fin{X Z:Vx}{η:Rat}{A B C D p q:Int}(hX:X.P)(hZ:Z.P)(hp:(divV X Z q).P)(hx:VM η (p2 A) (p2 B) X)(hz:VM η (p2 C) (p2 D) Z)(e0:0≤η)(he:η≤p2 (-19-p))(p0:8≤p)(p1:p≤2064)(hq:p+16≤q)(a0:-20000≤A-D)(b0:B-C≤20000) :
    Off0 Z∧Fin1 p (trimV (divV X Z q) (p+8)):=by
  have e1:eps q≤p2 (-15-p):=p2_le (by omega)
  have e2:eps (p+8)=p2 (-7-p):=by unfold eps;congr 1;omega
  have k15:p2 (-15-p)≤p2 (-p)/64:=by
    have:=p2_le (show -15-p≤-6 + -p by omega)
    rw [p2_add] at this
    have e:p2 (-6)=1/64:=by decide +kernel
    rw [e] at this;grind
  have k7:p2 (-7-p)≤p2 (-p)/64:=by
    have:=p2_le (show -7-p≤-6 + -p by omega)
    rw [p2_add] at this
    have e:p2 (-6)=1/64:=by decide +kernel
    rw [e] at this;grind
  have k19:p2 (-19-p)≤p2 (-p)/64:=by
    have:=p2_le (show -19-p≤-6 + -p by omega)
    rw [p2_add] at this
    have e:p2 (-6)=1/64:=by decide +kernel
    rw [e] at this;grind
  have k15':p2 (-15-p)≤p2 (-p)/1024:=by
    have:=p2_le (show -15-p≤-10 + -p by omega)
    rw [p2_add] at this
    have e:p2 (-10)=1/1024:=by decide +kernel
    rw [e] at this;grind
  have k19':p2 (-19-p)≤p2 (-p)/1024:=by
    have:=p2_le (show -19-p≤-10 + -p by omega)
    rw [p2_add] at this
    have e:p2 (-10)=1/1024:=by decide +kernel
    rw [e] at this;grind
  have q1:p2 (-p)≤1/8:=by
    have:=p2_le (show -p≤-3 by omega)
    have e:p2 (-3)=1/8:=by decide +kernel
    rw [e] at this;exact this
  have q0:=p2_pos (-p)
  have eq0:=eps_pos q
  obtain ⟨le,off,V⟩:=div_vm hX hZ hx hz e0 e0 (p:=q) (by omega) (by grind)
  have sq:=rmL (show η≤1 by grind) e0
  have T:=V.trim hp (p:=p+8) (by have:=rmN e0 e0;grind) (by omega) (by rw [e2];grind)
  have l1:p2 (A-D-1)/2=p2 (A-D-2):=by have:=p2_half (A-D-2);rw [show A-D-2+1=A-D-1 by omega] at this;grind
  have l2:2*p2 (B-C+1)=p2 (B-C+2):=by rw [p2_half];congr 1;omega
  rw [l1,l2] at T
  have T':=T.mono (η:=p2 (-p)) (by rw [e2];grind) (p2_pos _) Rat.le_refl Rat.le_refl
  have R:=cut_right hp T' (by omega) (by omega) (by omega) (by omega)
  exact ⟨off,trimV_p _ _,⟨cutD_f hp.1,cutD_f hp.2⟩,R,narrow_of (trimV_p _ _) R (by omega) T' Rat.le_refl⟩
theorem Off0.turn{U:Vx}(hU:U.P)(h:Off0 U):Off0 (turnV U):=by
  obtain ⟨r1,r2⟩:=turn_rv hU
  unfold Off0 at h ⊢
  rw [r1,r2]
  rcases h with h | h
  · exact .inr (by grind)
  · exact .inl (by grind)
theorem VM.turn{δ L H:Rat}{v:Vx}(hv:v.P)(h:VM δ L H v):VM δ L H (turnV v):=by
  obtain ⟨r1,r2⟩:=turn_rv hv
  unfold VM
  rw [r1,r2,Rat.neg_neg,Rat.neg_neg]
  exact h.symm
theorem vm_off{δ L H:Rat}{v:Vx}(h:VM δ L H v):Off0 v:=by
  rcases h with h | h
  · exact .inl h.nar.1
  · exact .inr (by have:=h.nar.1;grind)
theorem fits_bd2{z:Dx}(h:OneF z)(hb:z.Bd 32768 32000):z.fitsB=true:=by
  have m0:=h.p
  have l:=hb.lo
  have u:=hb.hi
  have w:=ws_len_blen m0
  have g:greatB z.m=false:=by unfold greatB;exact decide_eq_false (by omega)
  unfold Dx.fitsB
  rw [g,decide_eq_true (show -32768≤z.e by omega),decide_eq_true (show z.e≤32768 by omega)];rfl
def turS(k:Int)(b:(Nat→Rat)×(Nat→Rat)):(Nat→Rat)×(Nat→Rat) :=
  if k=1 then (b.2,fun n=>-b.1 n) else if k=2 then (fun n=>-b.1 n,fun n=>-b.2 n) else if k=3 then (fun n=>-b.2 n,b.1) else b
theorem cq_of{x:Dx}{p:Int}(h:(quarR x p).2.2=0):condQ x p:=by
  rcases quar_cases x p with ⟨_,q⟩|⟨c,_⟩|⟨c,_⟩|⟨c,_⟩|⟨c,_⟩
  · rw [q] at h;cases h
  all_goals exact c
theorem near_bd2{x c z:Rat}{n:Int}(c0:3/2≤c)(c1:c≤8/5)(h:NearI n (x*c⁻¹))(hz:z=x-(n:Rat)*c):-(4/5)≤z∧z≤4/5:=by
  have e:x=x*c⁻¹*c:=by rw [Rat.mul_assoc,Rat.inv_mul_cancel c (by grind),Rat.mul_one]
  have h1:=h.1
  have h2:=h.2.1
  have m1:=rmR h1 (show 0≤c by grind)
  have m2:=rmR h2 (show 0≤c by grind)
  rw [←e] at m1 m2
  constructor<;>grind
theorem narrow_facts2{v:Vx}{p:Int}(hv:v.P)(h:narrowB v p=true):0≤p∧rightV v=true∧v.lo.sgn=v.hi.sgn ∧
    (v.lo.sgn=0∨(lessD v.hi v.lo).zeroB=true∨((lessD v.hi v.lo).zeroB=false∧v.lo.sgn≠0∧p2 (-32768)≤(lessD v.hi v.lo).rv∧(if v.lo.sgn<0 then absD v.hi else absD v.lo).rv<p2 98304∧(lessD v.hi v.lo).rv*p2 p≤(if v.lo.sgn<0 then absD v.hi else absD v.lo).rv)):=by
  unfold narrowB at h
  simp only [Bool.and_eq_true] at h
  obtain ⟨p0,hr,hn⟩:=h
  have fv:=right_fits hr
  refine ⟨leI_true.1 p0,hr,?_⟩
  unfold narrowV at hn
  by_cases h1:v.lo.sgn=v.hi.sgn
  · refine ⟨h1,?_⟩
    rw [if_neg (by omega)] at hn
    by_cases h2:v.lo.sgn=0
    · exact .inl h2
    · rw [if_neg h2] at hn
      cases h3:(lessD v.hi v.lo).zeroB with
      | true=>exact .inr (.inl rfl)
      | false =>
        rw [h3,if_neg (by simp)] at hn
        have hw:=wide_ge hv hr h3
        have hl:(if v.lo.sgn<0 then absD v.hi else absD v.lo).rv<p2 98304:=by
          split
          · rw [rv_abs hv.2];exact fits_lt fv.2.1
          · rw [rv_abs hv.1];exact fits_lt fv.1
        refine .inr (.inr ⟨rfl,h2,hw,hl,?_⟩)
        rw [narrowX_eq lessD_p (by split<;>exact absD_p) hw hl,decide_eq_true_eq] at hn
        exact hn
  · rw [if_pos h1] at hn;simp at hn
theorem nar_of_narrow{v:Vx}{p:Int}(hv:v.P)(h:narrowB v p=true):VN (p2 (-p)) v:=by
  obtain ⟨p0,hr,sg,hc⟩:=narrow_facts2 hv h
  have le:=right_le hr
  have q:=p2_pos p
  have q':=p2_pos (-p)
  have i:=p2_neg p
  have s1:=sgn_rv hv.1
  have s2:=sgn_rv hv.2
  have wr:(lessD v.hi v.lo).rv=v.hi.rv-v.lo.rv:=rv_less hv.2 hv.1
  obtain ⟨al1,al2⟩:=rv_amt hv.1
  obtain ⟨ah1,ah2⟩:=rv_amt hv.2
  rcases s1 with ⟨a,b⟩|⟨a,b⟩|⟨a,b⟩
  · -- zero or above,by the kit's order of cases
    rcases s2 with ⟨c,d⟩|⟨c,d⟩|⟨c,d⟩<;>first | omega | skip
    all_goals first
      | exact .inl ⟨b,d⟩
      | (refine .inr (.inl ⟨b,le,?_⟩)
         rcases hc with hc | hc | ⟨_,_,_,_,hc⟩
         · omega
         · have:=(zeroB_rv lessD_p).1 hc
           have:=rmN (rlL q') (rlL b)
           grind
         · rw [if_neg (by omega),rv_abs hv.1,←al1 (rlL b),wr] at hc
           have m:=rmL hc (rlL q')
           have e:p2 (-p)*((v.hi.rv-v.lo.rv)*p2 p)=v.hi.rv-v.lo.rv:=by rw [show p2 (-p)*((v.hi.rv-v.lo.rv)*p2 p)=(v.hi.rv-v.lo.rv)*(p2 (-p)*p2 p) by grind,i,Rat.mul_one]
           grind)
  · rcases s2 with ⟨c,d⟩|⟨c,d⟩|⟨c,d⟩<;>first | omega | skip
    all_goals first
      | exact .inl ⟨b,d⟩
      | (refine .inr (.inl ⟨b,le,?_⟩)
         rcases hc with hc | hc | ⟨_,_,_,_,hc⟩
         · omega
         · have:=(zeroB_rv lessD_p).1 hc
           have:=rmN (rlL q') (rlL b)
           grind
         · rw [if_neg (by omega),rv_abs hv.1,←al1 (rlL b),wr] at hc
           have m:=rmL hc (rlL q')
           have e:p2 (-p)*((v.hi.rv-v.lo.rv)*p2 p)=v.hi.rv-v.lo.rv:=by rw [show p2 (-p)*((v.hi.rv-v.lo.rv)*p2 p)=(v.hi.rv-v.lo.rv)*(p2 (-p)*p2 p) by grind,i,Rat.mul_one]
           grind)
  · rcases s2 with ⟨c,d⟩|⟨c,d⟩|⟨c,d⟩<;>first | omega | skip
    refine .inr (.inr ⟨by grind,by grind,?_⟩)
    rcases hc with hc | hc | ⟨_,_,_,_,hc⟩
    · omega
    · have:=(zeroB_rv lessD_p).1 hc
      have:=rmN (rlL q') (show 0≤-v.hi.rv by grind)
      grind
    · rw [if_pos (by omega),rv_abs hv.2,←ah2 (rlL d),wr] at hc
      have m:=rmL hc (rlL q')
      have e:p2 (-p)*((v.hi.rv-v.lo.rv)*p2 p)=v.hi.rv-v.lo.rv:=by rw [show p2 (-p)*((v.hi.rv-v.lo.rv)*p2 p)=(v.hi.rv-v.lo.rv)*(p2 (-p)*p2 p) by grind,i,Rat.mul_one]
      grind
theorem turn_half{η:Rat}{S C:Vx}{s c:Nat→Rat}(h:Half η S s)(g:Half η C c)(k:Int):Half η (turnP k (S,C)).1 (turS k (s,c)).1∧Half η (turnP k (S,C)).2 (turS k (s,c)).2:=by
  unfold turnP turS
  by_cases h1:k=1
  · rw [if_pos h1,if_pos h1];exact ⟨g,h.turn⟩
  · rw [if_neg h1,if_neg h1]
    by_cases h2:k=2
    · rw [if_pos h2,if_pos h2];exact ⟨h.turn,g.turn⟩
    · rw [if_neg h2,if_neg h2]
      by_cases h3:k=3
      · rw [if_pos h3,if_pos h3];exact ⟨g.turn,h⟩
      · rw [if_neg h3,if_neg h3];exact ⟨h,g⟩
theorem invS_e{n w:Int}(h:InvOk n w):1≤(invS n w true).e:=by
  obtain ⟨_,_,_,_,a,_,b,_⟩:=invR_bd h
  show 1≤(invR n w 0).e+(invR n w 1).e
  omega
theorem piF_pos{w:Int}(w0:32≤w)(w1:w≤65536):1≤(piF w).e:=by
  have a:=invS_e (n:=5) (w:=w) ⟨by decide,by decide,w0,w1⟩
  have b:=invS_e (n:=239) (w:=w) ⟨by decide,by decide,w0,w1⟩
  show 1≤(invS 5 w true).e*16+(invS 239 w true).e*4
  omega
theorem ivF_lt{z:Fx}{w:Int}(a0:0≤z.a)(e1:1≤z.e):(ivF z w).lo.rv<(ivF z w).hi.rv:=by
  obtain ⟨r1,r2⟩:=ivF_rv (w:=w) a0 (show 0≤z.e by omega)
  rw [r1,r2]
  have c:(z.a:Rat)<((z.a+z.e:Int):Rat):=by exact_mod_cast (show z.a<z.a+z.e by omega)
  exact Rat.mul_lt_mul_of_pos_right c (p2_pos _)
theorem trim_lt{v:Vx}{p:Int}(hv:v.P)(hp:1≤p)(h:v.lo.rv<v.hi.rv):(trimV v p).lo.rv<(trimV v p).hi.rv:=by
  have a:=(trim_in2 hv hp (show InV v v.lo.rv from ⟨Rat.le_refl,rlL h⟩)).1
  have b:=(trim_in2 hv hp (show InV v v.hi.rv from ⟨rlL h,Rat.le_refl⟩)).2
  grind
theorem scale_lt{v:Vx}(hv:v.P)(h:v.lo.rv<v.hi.rv):(scaleV v (-1)).lo.rv<(scaleV v (-1)).hi.rv:=by
  show (shiftD v.lo (-1)).rv<(shiftD v.hi (-1)).rv
  rw [rv_shift hv.1,rv_shift hv.2]
  exact Rat.mul_lt_mul_of_pos_right h (p2_pos _)
theorem halfP_lt{w:Int}(w0:8≤w)(w1:w≤65000):(halfP w).lo.rv<(halfP w).hi.rv:=by
  obtain ⟨a0,e0,_,_⟩:=piF_e (w:=w+64) (by omega) (by omega)
  exact scale_lt (constPi_iv w0 w1).p (trim_lt (encPi_iv w0 w1).p (by omega) (ivF_lt a0 (piF_pos (by omega) (by omega))))
theorem rest_zero{h:Vx}(hp:h.P)(hl:h.lo.rv<h.hi.rv){x:Dx}(hx:0≤x.m){w:Int}(hw:1≤w)(z1:(restW h x w).lo.rv=0)(z2:(restW h x w).hi.rv=0):x.rv=0:=by
  have a:=rest_any hp hx hw (show InV h h.lo.rv from ⟨Rat.le_refl,rlL hl⟩)
  have b:=rest_any hp hx hw (show InV h h.hi.rv from ⟨rlL hl,Rat.le_refl⟩)
  obtain ⟨a1,a2⟩:=a
  obtain ⟨b1,b2⟩:=b
  rw [z1] at a1 b1
  rw [z2] at a2 b2
  have e:(nI h x w:Rat)*(h.hi.rv-h.lo.rv)=0:=by grind
  have n0:(nI h x w:Rat)=0:=by
    rcases Rat.mul_eq_zero.1 e with k | k
    · exact k
    · exfalso;grind
  rw [n0] at a1 a2;grind
theorem vn_off{δ:Rat}{v:Vx}(h:VN δ v)(z:¬ (v.lo.rv=0∧v.hi.rv=0)):NarV δ v:=by
  rcases h with h | h
  · exact absurd h z
  · exact h
theorem quar_off{x:Dx}(hx:0≤x.m)(h0:x.rv≠0){p:Int}(h:(quarR x p).2.2=0):NarV (p2 (-p)) (quarR x p).2.1∧∃ w,8≤w∧w≤8192∧(quarR x p).2.1=restW (halfP w) (oneD x) w:=by
  have ho:(oneD x).rv≠0:=by rw [rv_one hx];exact h0
  rcases quar_cases x p with ⟨_,e⟩|⟨_,z,_⟩|⟨_,_,_,e⟩|⟨_,_,_,e⟩|⟨c,z,t,w,q⟩
  · rw [e] at h;cases h
  · exact absurd (rv_zero z) ho
  · rw [e] at h;cases h
  · rw [e] at h;cases h
  · have e:(quarR x p).2.1=restW (halfP w) (oneD x) w:=by rw [q.eq]
    have hf:=halfP_hf (w:=w) q.w0 (by have:=q.w1;omega)
    have rp:(restW (halfP w) (oneD x) w).P:=⟨cutD_p,cutD_p⟩
    have nb:narrowB (restW (halfP w) (oneD x) w) p=true:=by
      have c2:=c.2.1
      rw [narrowB,q.right,q.nar,leI_true.2 (show 0≤p by omega)];rfl
    refine ⟨?_,w,q.w0,q.w1,e⟩
    rw [e]
    exact vn_off (nar_of_narrow rp nb) fun z=>ho (rest_zero hf.p (halfP_lt q.w0 (by have:=q.w1;omega)) oneD_p (by have:=q.w0;omega) z.1 z.2)
theorem rest_low{x:Dx}(hx:0≤x.m)(hb:x.Bd 1074 1024)(hi:inX x){w:Int}(w0:8≤w)(w1:w≤8192):(restW (halfP w) x w).Bd 8258 4096:=by
  have hf:=halfP_hf (w:=w) w0 (by omega)
  have cb:=halfP_bd (w:=w) w0 (by omega)
  obtain ⟨_,_,_,nb,_,_⟩:=half_sizes hf w0 (by omega) cb hx hi
  have np:0≤(nW (halfP w) x w).m:=nearD_p
  have tb:=Vx.Bd.times (p:=w+64) (pointV_p (nW (halfP w) x w)) hf.p (by omega) (nb.point np) cb
  exact (Vx.Bd.less (p:=w) (pointV_p x) (trimV_p (prodV (pointV (nW (halfP w) x w)) (halfP w)) (w+64)) (by omega) ((hb.point hx).mono (show (1074:Int)≤8258 by omega) (show (1024:Int)≤4094 by omega)) (tb.mono (by omega) (by omega))).mono (by omega) (by omega)
theorem bd_low{d:Dx}{L T:Int}(hd:0≤d.m)(hb:d.Bd L T)(h0:d.rv≠0):p2 (-L)≤(d.m:Rat)*p2 d.e:=by
  have m1:1≤d.m:=by have:=rv_ne h0;omega
  have a:((1:Int):Rat)≤(d.m:Rat):=by exact_mod_cast m1
  have e1:((1:Int):Rat)=1:=rfl
  rw [e1] at a
  have b:=p2_le hb.lo
  have m:=rmR a (rlL (p2_pos d.e))
  grind
theorem quar_amt{x:Dx}(hx:0≤x.m)(fx:OneF x)(hb:x.Bd 1074 1024)(hi:inX x)(h0:x.rv≠0){p:Int}(h:(quarR x p).2.2=0):p2 (-8258)≤(quarR x p).2.1.lo.rv∨p2 (-8258)≤-(quarR x p).2.1.hi.rv:=by
  obtain ⟨n,w,w0,w1,e⟩:=quar_off hx h0 h
  rw [e,oneD_id fx] at n ⊢
  have b:=rest_low hx hb hi w0 w1
  have rp:(restW (halfP w) x w).P:=⟨cutD_p,cutD_p⟩
  rcases n with n | n
  · left
    have:=bd_low rp.1 b.1 (by have:=n.1;grind)
    rw [←(rv_amt rp.1).1 (rlL n.1)] at this;exact this
  · right
    have:=bd_low rp.2 b.2 (by have:=n.1;grind)
    rw [←(rv_amt rp.2).2 (by have:=n.1;grind)] at this;exact this
theorem quar_both{x:Dx}(hx:0≤x.m)(fx:OneF x)(hb:x.Bd 1074 1024)(hi:inX x)(h0:x.rv≠0){p:Int}(p0:8≤p)(p1:p≤2064)(h:(quarR x (p+32)).2.2=0)(s1:small1 (quarR x (p+32)).2.1.lo)(s2:small1 (quarR x (p+32)).2.1.hi)(rr:rightV (quarR x (p+32)).2.1=true)(rq:(quarR x (p+32)).2.1.P) :
    ∃ S C,bothR (quarR x (p+32)).2.1 (p+24)=((S,C),0)∧VM (p2 (-19-p)) (p2 (-8263)) (p2 5) S∧PairOk (quarR x (p+32)).2.1 (p2 (-19-p)) S C:=by
  obtain ⟨n,_⟩:=quar_off hx h0 h
  have am:=quar_amt hx fx hb hi h0 h
  have f:=right_fits rr
  have F1:=fault_of (p:=p+24) rq.1 f.1 s1 (by omega) (by omega)
  have F2:=fault_of (p:=p+24) rq.2 f.2.1 s2 (by omega) (by omega)
  have d0:=rlL (p2_pos (-(p+32)))
  have dd:p2 (-(p+32))≤p2 (-(p+24)):=p2_le (by omega)
  obtain ⟨r,v⟩:=pair_vm rq F1 F2 n am (by decide) d0 dd
  have e5:p2 (5-(p+24))=p2 (-19-p):=by congr 1;omega
  rw [e5] at v
  rcases pair_ok rq rr F1 F2 (.inr n) d0 dd with ⟨_,k⟩|⟨e,K⟩
  · rw [r] at k;cases k
  · rw [e5] at K
    exact ⟨_,_,e,v,K⟩
def Ab(x K:Rat):Prop:=-K≤x∧x≤K
theorem sqN(z:Rat):0≤z*z:=by
  rcases (show 0≤z∨0≤-z by grind) with q | q
  · exact rmN q q
  · have:=rmN q q;grind
theorem Ab.mono{x K L:Rat}(h:Ab x K)(k:K≤L):Ab x L:=⟨by have:=h.1;grind,by have:=h.2;grind⟩
theorem Ab.nonneg{x K:Rat}(h:Ab x K):0≤K:=by have:=h.1;have:=h.2;grind
theorem Ab.add{x y K L:Rat}(h:Ab x K)(k:Ab y L):Ab (x+y) (K+L):=by
  obtain ⟨a,b⟩:=h;obtain ⟨c,d⟩:=k;exact ⟨by grind,by grind⟩
theorem Ab.neg{x K:Rat}(h:Ab x K):Ab (-x) K:=by obtain ⟨a,b⟩:=h;exact ⟨by grind,by grind⟩
theorem Ab.sub{x y K L:Rat}(h:Ab x K)(k:Ab y L):Ab (x-y) (K+L):=by
  obtain ⟨a,b⟩:=h;obtain ⟨c,d⟩:=k;exact ⟨by grind,by grind⟩
theorem Ab.mul{x y K L:Rat}(h:Ab x K)(k:Ab y L):Ab (x*y) (K*L):=by
  have n:=h.nonneg
  obtain ⟨a,b⟩:=h;obtain ⟨c,d⟩:=k
  have r1:=rmN (show 0≤K-x by grind) (show 0≤L-y by grind)
  have r2:=rmN (show 0≤K+x by grind) (show 0≤L+y by grind)
  have r3:=rmN (show 0≤K-x by grind) (show 0≤L+y by grind)
  have r4:=rmN (show 0≤K+x by grind) (show 0≤L-y by grind)
  exact ⟨by grind,by grind⟩
theorem Ab.zero{K:Rat}(h:0≤K):Ab 0 K:=⟨by grind,h⟩
theorem Ab.of_mul{c z K:Rat}(hc:0<c)(h:Ab (c*z) (c*K)):Ab z K:=by
  obtain ⟨a,b⟩:=h
  refine ⟨Rat.not_lt.1 fun k=>?_,Rat.not_lt.1 fun k=>?_⟩
  · have:=Rat.mul_pos hc (show 0 < -K-z by grind);grind
  · have:=Rat.mul_pos hc (show 0<z-K by grind);grind
theorem Ab.alt{x K:Rat}(h:Ab x K)(i:Nat):Ab (alt i*x) K:=by
  rcases alt_one i with e | e<;>rw [e]
  · rw [Rat.one_mul];exact h
  · have:=h.neg;rwa [show -1*x = -x by grind]
theorem Ab.congr{x y K:Rat}(h:Ab x K)(e:y=x):Ab y K:=e ▸ h
theorem Ab.sq{x K:Rat}(h:Ab x K):x*x≤K*K:=(h.mul h).2
theorem sum_ab{B:Rat}{b:Nat→Rat}(h:∀ i,Ab (b i) (B*hf i))(n:Nat):Ab (sumTo b n) (2*B):=by
  have:=Dec.tail_le (B:=B) (b:=b) h (Nat.zero_le n)
  rw [hf_zero] at this
  have e:sumTo b 0=0:=rfl
  rw [e] at this
  exact ⟨by grind,by grind⟩
theorem nat_pos2(j:Nat):(0:Rat)<((j+2:Nat):Rat):=nat_pos (j+1)
theorem cast_add2(j:Nat):((j+2:Nat):Rat)=(j:Rat)+2:=by
  have:=Rat.natCast_add j 2
  exact this
theorem cast_nonneg(j:Nat):(0:Rat)≤(j:Rat):=by exact_mod_cast Nat.zero_le j
theorem hf_nonneg(k:Nat):0≤hf k:=rlL (hf_pos k)
theorem dpw_ab{t:Rat}(h:Ab t 1):∀ k,Ab (dpw t k) (2*hf k)
  | 0=>by rw [hf_zero];exact ⟨by show _≤(1:Rat);grind,by show (1:Rat)≤_;grind⟩
  | 1=>by
    have e:dpw t 1=t:=by
      have h:=dpw_succ t 0
      have e:((0+1:Nat):Rat)=1:=rfl
      rw [e] at h
      have:dpw t 0=1:=rfl
      rw [this] at h
      have h2:dpw t (0+1)=dpw t 1:=rfl
      grind
    rw [e,hf_one];exact h
  | k+2=>by
    have ih:=dpw_ab h (k+1)
    have s:=dpw_succ t (k+1)
    refine Ab.of_mul (nat_pos2 k) ?_
    have m:=h.mul ih
    rw [Rat.one_mul,←s] at m
    refine m.mono ?_
    have e:=hf_succ (k+1)
    have c:=cast_add2 k
    have p:=rmN (cast_nonneg k) (hf_nonneg (k+1+1))
    show 2*hf (k+1)≤((k+2:Nat):Rat)*(2*hf (k+1+1))
    rw [c];grind
def dE(a d:Rat)(j:Nat):Rat:=dpw (a+d) (j+1)-dpw a (j+1)-d*dpw a j
theorem dE_succ(a d:Rat)(j:Nat):((j+2:Nat):Rat)*dE a d (j+1)=d*d*dpw a j+(a+d)*dE a d j:=by
  have s1:=dpw_succ (a+d) (j+1)
  have s2:=dpw_succ a (j+1)
  have s3:=dpw_succ a j
  have c2:=cast_add2 j
  have c1:((j+1:Nat):Rat)=(j:Rat)+1:=Rat.natCast_add j 1
  have c3:((j+1+1:Nat):Rat)=(j:Rat)+2:=c2
  rw [c3] at s1 s2
  rw [c1] at s3
  rw [c2]
  unfold dE
  generalize dpw (a+d) (j+1+1)=X at *
  generalize dpw a (j+1+1)=Y at *
  generalize dpw (a+d) (j+1)=Z at *
  generalize dpw a (j+1)=U at *
  generalize dpw a j=V at *
  grind
theorem dE_ab{a d:Rat}(ha:Ab a 1)(hd:Ab (a+d) 1):∀ j,Ab (dE a d j) (4*(d*d)*hf j)
  | 0=>by
    have e:∀ t:Rat,dpw t 1=t:=fun t=>by
      have h:=dpw_succ t 0
      have e:((0+1:Nat):Rat)=1:=rfl
      rw [e] at h
      have:dpw t 0=1:=rfl
      rw [this] at h
      have h2:dpw t (0+1)=dpw t 1:=rfl
      grind
    have z:dE a d 0=0:=by
      show dpw (a+d) 1-dpw a 1-d*1=0
      rw [e,e];grind
    rw [z,hf_zero]
    have:=sqN d
    exact Ab.zero (by grind)
  | j+1=>by
    have ih:=dE_ab ha hd j
    have s:=dE_succ a d j
    refine Ab.of_mul (nat_pos2 j) ?_
    rw [s]
    have q:=sqN d
    have dd:Ab (d*d) (d*d):=⟨by grind,by grind⟩
    have m1:=dd.mul (dpw_ab ha j)
    have m2:=hd.mul ih
    have e:=hf_succ j
    have c:=cast_add2 j
    cases j with
    | zero =>
      have z:dE a d 0=0:=by
        have:=ih
        have e:∀ t:Rat,dpw t 1=t:=fun t=>by
          have h:=dpw_succ t 0
          have e:((0+1:Nat):Rat)=1:=rfl
          rw [e] at h
          have:dpw t 0=1:=rfl
          rw [this] at h
          have h2:dpw t (0+1)=dpw t 1:=rfl
          grind
        show dpw (a+d) 1-dpw a 1-d*1=0
        rw [e,e];grind
      rw [z]
      rw [hf_zero] at m1
      have z2:(a+d)*0=0:=Rat.mul_zero _
      rw [z2]
      refine (m1.add (Ab.zero (K:=0) Rat.le_refl)).mono ?_
      have p:=rmN q (hf_nonneg 1)
      have h1:=hf_one
      show d*d*(2*1)+0≤((0+2:Nat):Rat)*(4*(d*d)*hf (0+1))
      have c0:((0+2:Nat):Rat)=2:=rfl
      rw [c0]
      have e2:2*(4*(d*d)*hf (0+1))=4*(d*d)*(2*hf 1):=by grind
      rw [e2,h1];grind
    | succ i =>
      refine (m1.add m2).mono ?_
      rw [c]
      have p:=rmN q (hf_nonneg (i+1+1))
      have p2:=rmN (cast_nonneg i) p
      have c1:((i+1:Nat):Rat)=(i:Rat)+1:=Rat.natCast_add i 1
      rw [c1,e]
      grind
theorem hf_mono2(i:Nat):hf (2*i)≤hf i:=hf_le (by omega)
theorem hf_mono3(i:Nat):hf (2*i+1)≤hf i:=hf_le (by omega)
theorem sq_bd{d:Rat}{i j:Nat}(h:i≤j):4*(d*d)*hf j≤4*(d*d)*hf i:=by
  have:=rmL (hf_le h) (sqN d);grind
theorem sin_step{a d:Rat}(ha:Ab a 1)(hd:Ab (a+d) 1)(n:Nat):Ab (sinS (a+d) n-sinS a n-d*cosS a n) (8*(d*d)):=by
  have e:sinS (a+d) n-sinS a n-d*cosS a n=sumTo (fun i=>alt i*dE a d (2*i)) n:=by
    induction n with
    | zero=>show (0:Rat)-0-d*0=0;grind
    | succ n ih =>
      show (sinS (a+d) n+sinT (a+d) n)-(sinS a n+sinT a n)-d*(cosS a n+cosT a n)=sumTo _ n+_
      rw [←ih];unfold sinT cosT dE;grind
  rw [e]
  exact (sum_ab (B:=4*(d*d)) (fun i=>((dE_ab ha hd (2*i)).alt i).mono (sq_bd (by omega))) n).mono (by grind)
theorem cos_step{a d:Rat}(ha:Ab a 1)(hd:Ab (a+d) 1)(n:Nat):Ab (cosS (a+d) n-cosS a n+d*sinS a n) (8*(d*d)+4*hf n):=by
  have e:∀ n,cosS (a+d) (n+1)-cosS a (n+1)+d*sinS a n=sumTo (fun i=>-1*(alt i*dE a d (2*i+1))) n:=by
    intro n
    induction n with
    | zero=>show ((0:Rat)+1*1)-(0+1*1)+d*0=0;grind
    | succ n ih =>
      show (cosS (a+d) (n+1)+cosT (a+d) (n+1))-(cosS a (n+1)+cosT a (n+1))+d*(sinS a n+sinT a n)=sumTo _ n+_
      rw [←ih];unfold sinT cosT dE;rw [alt_succ,show 2*(n+1)=2*n+1+1 by omega];grind
  have b:=sum_ab (B:=4*(d*d)) (b:=fun i=>-1*(alt i*dE a d (2*i+1))) (fun i=>by
    have:=(((dE_ab ha hd (2*i+1)).alt i).mono (sq_bd (d:=d) (show i≤2*i+1 by omega))).neg
    exact this.congr (by grind)) n
  rw [←e] at b
  have t1:=(dpw_ab hd (2*n)).alt n
  have t2:=(dpw_ab ha (2*n)).alt n
  have h:=hf_mono2 n
  have u1:cosS (a+d) (n+1)=cosS (a+d) n+alt n*dpw (a+d) (2*n):=rfl
  have u2:cosS a (n+1)=cosS a n+alt n*dpw a (2*n):=rfl
  rw [u1,u2] at b
  refine ((b.sub (t1.sub t2)).congr (by grind)).mono (by grind)
theorem sin_ab{a:Rat}(ha:Ab a 1)(n:Nat):Ab (sinS a n) 4 :=
  (sum_ab (B:=2) (fun i=>((dpw_ab ha (2*i+1)).alt i).mono (by have:=hf_mono3 i;grind)) n).mono (by grind)
theorem cos_ab{a:Rat}(ha:Ab a 1)(n:Nat):Ab (cosS a n) 4 :=
  (sum_ab (B:=2) (fun i=>((dpw_ab ha (2*i)).alt i).mono (by have:=hf_mono2 i;grind)) n).mono (by grind)
def pw(x:Rat):Nat→Rat
  | 0=>1
  | k+1=>x*pw x k
def qw(x:Rat)(j:Nat):Rat:=pw x (j+1)*((j+1:Nat):Rat)⁻¹
theorem qw_mul(x:Rat)(j:Nat):((j+1:Nat):Rat)*qw x j=pw x (j+1):=by
  unfold qw
  have:=Rat.mul_inv_cancel ((j+1:Nat):Rat) (fun h=>by have:=nat_pos j;grind)
  grind
theorem pw_ab{x:Rat}(h:Ab x (1/4)):∀ k,Ab (pw x k) (hf (2*k))
  | 0=>by show Ab 1 (hf 0);rw [hf_zero];exact ⟨by grind,by grind⟩
  | k+1=>by
    have m:=h.mul (pw_ab h k)
    refine m.mono ?_
    have e1:=hf_succ (2*k)
    have e2:=hf_succ (2*k+1)
    rw [show 2*(k+1)=2*k+1+1 by omega];grind
def qE(x d:Rat)(j:Nat):Rat:=qw (x+d) j-qw x j-d*pw x j
theorem pw_step(x d:Rat):∀ j:Nat,pw (x+d) (j+1)-pw x (j+1)-((j+1:Nat):Rat)*(d*pw x j)=((j+1:Nat):Rat)*qE x d j:=fun j=>by
  have s1:=qw_mul (x+d) j
  have s2:=qw_mul x j
  unfold qE
  rw [←s1,←s2];grind
theorem qE_succ(x d:Rat)(j:Nat):((j+2:Nat):Rat)*qE x d (j+1)=((j+1:Nat):Rat)*((x+d)*qE x d j+d*d*pw x j):=by
  have s1:=pw_step x d (j+1)
  have s0:=pw_step x d j
  have c2:=cast_add2 j
  have c1:((j+1:Nat):Rat)=(j:Rat)+1:=Rat.natCast_add j 1
  have c3:((j+1+1:Nat):Rat)=(j:Rat)+2:=c2
  rw [c3] at s1
  rw [c1] at s0 ⊢
  rw [c2,←s1]
  have e1:pw (x+d) (j+1+1)=(x+d)*pw (x+d) (j+1):=rfl
  have e2:pw x (j+1+1)=x*pw x (j+1):=rfl
  have e3:pw x (j+1)=x*pw x j:=rfl
  rw [e1,e2]
  rw [e3] at s0 ⊢
  generalize pw (x+d) (j+1)=Z at *
  generalize pw x j=V at *
  have:Z=x*V+((j:Rat)+1)*(d*V)+((j:Rat)+1)*qE x d j:=by grind
  rw [this];grind
theorem qE_ab{x d:Rat}(hx:Ab x (1/4))(hd:Ab (x+d) (1/4)):∀ j,Ab (qE x d j) (4*(d*d)*hf j)
  | 0=>by
    have e:∀ t:Rat,qw t 0=t:=fun t=>by
      have h:=qw_mul t 0
      have e:((0+1:Nat):Rat)=1:=rfl
      have e2:pw t (0+1)=t*1:=rfl
      rw [e,e2] at h;grind
    have z:qE x d 0=0:=by
      show qw (x+d) 0-qw x 0-d*1=0
      rw [e,e];grind
    rw [z,hf_zero]
    have:=sqN d
    exact Ab.zero (by grind)
  | j+1=>by
    have ih:=qE_ab hx hd j
    refine Ab.of_mul (nat_pos2 j) ?_
    rw [qE_succ]
    have q:=sqN d
    have dd:Ab (d*d) (d*d):=⟨by grind,by grind⟩
    have m1:=dd.mul ((pw_ab hx j).mono (hf_mono2 j))
    have m2:=hd.mul ih
    have e:=hf_succ j
    have p:=rmN q (hf_nonneg j)
    have c1:Ab ((j+1:Nat):Rat) ((j+2:Nat):Rat):=by
      have:=cast_add2 j
      have:=cast_nonneg j
      have c1:((j+1:Nat):Rat)=(j:Rat)+1:=Rat.natCast_add j 1
      exact ⟨by grind,by grind⟩
    have key:1/4*(4*(d*d)*hf j)+d*d*hf j≤4*(d*d)*hf (j+1):=by rw [e];grind
    exact c1.mul ((m2.add m1).mono key)
def atS(x:Rat)(n:Nat):Rat:=sumTo (fun k=>alt k*qw x (2*k)) n
def gS(x:Rat)(n:Nat):Rat:=sumTo (fun k=>alt k*pw x (2*k)) n
theorem at_step{x d:Rat}(hx:Ab x (1/4))(hd:Ab (x+d) (1/4))(n:Nat):Ab (atS (x+d) n-atS x n-d*gS x n) (8*(d*d)):=by
  have e:atS (x+d) n-atS x n-d*gS x n=sumTo (fun i=>alt i*qE x d (2*i)) n:=by
    induction n with
    | zero=>show (0:Rat)-0-d*0=0;grind
    | succ n ih =>
      show (atS (x+d) n+alt n*qw (x+d) (2*n))-(atS x n+alt n*qw x (2*n))-d*(gS x n+alt n*pw x (2*n))=sumTo _ n+_
      rw [←ih];unfold qE;grind
  rw [e]
  exact (sum_ab (B:=4*(d*d)) (fun i=>((qE_ab hx hd (2*i)).alt i).mono (sq_bd (by omega))) n).mono (by grind)
theorem gS_eq(x:Rat)(n:Nat):gS x n+x*x*gS x n=1-alt n*pw x (2*n):=by
  induction n with
  | zero=>show (0:Rat)+x*x*0=1-1*1;grind
  | succ n ih =>
    show (gS x n+alt n*pw x (2*n))+x*x*(gS x n+alt n*pw x (2*n))=_
    have e:pw x (2*(n+1))=x*(x*pw x (2*n)):=rfl
    rw [alt_succ,e];grind
theorem gS_ab{x:Rat}(hx:Ab x (1/4))(n:Nat):Ab (gS x n) 2 :=
  (sum_ab (B:=1) (fun i=>((pw_ab hx (2*i)).alt i).mono (by have:=hf_le (show i≤2*(2*i) by omega);grind)) n).mono (by grind)
theorem qw_ab{x:Rat}(hx:Ab x (1/4))(j:Nat):Ab (qw x j) (hf (2*(j+1))):=by
  refine Ab.of_mul (nat_pos j) ?_
  rw [qw_mul]
  refine (pw_ab hx (j+1)).mono ?_
  have c1:((j+1:Nat):Rat)=(j:Rat)+1:=Rat.natCast_add j 1
  have:=rmN (cast_nonneg j) (hf_nonneg (2*(j+1)))
  rw [c1];grind
theorem atS_ab{x:Rat}(hx:Ab x (1/4))(n:Nat):Ab (atS x n) (1/2) :=
  (sum_ab (B:=1/4) (fun i=>((qw_ab hx (2*i)).alt i).mono (by
    have e1:=hf_add 2 (4*i)
    have e2:hf 2=1/4:=by have a:=hf_succ 0;have b:=hf_succ 1;rw [hf_zero] at a;grind
    have l:=hf_le (show i≤4*i by omega)
    rw [show 2*(2*i+1)=2+4*i by omega,e1,e2];grind)) n).mono (by grind)
def vS(x:Rat)(n:Nat):Rat:=sinS (atS x n) n-x*cosS (atS x n) n
theorem vS_step{x d:Rat}(hx:Ab x (1/4))(hd:Ab (x+d) (1/4))(d0:0≤d)(d1:d≤1/4)(n:Nat):Ab (vS (x+d) n-vS x n*(1+d*(x*gS x n))) (400*(d*d)+8*hf n):=by
  have A:=atS_ab hx n
  have A':=atS_ab hd n
  have st:=at_step hx hd n
  have g:=gS_ab hx n
  have dn:Ab d d:=⟨by grind,by grind⟩
  have q:=rmN d0 d0
  have q4:=rmL d1 d0
  have h0:=hf_nonneg n
  have dl:Ab (atS (x+d) n-atS x n) (4*d):=((st.add (dn.mul g)).congr (by grind)).mono (by grind)
  have dq:=dl.sq
  have s1:=sin_step (A.mono (show (1:Rat)/2≤1 by decide +kernel)) (d:=atS (x+d) n-atS x n) (by rw [show atS x n+(atS (x+d) n-atS x n)=atS (x+d) n by grind];exact A'.mono (by decide +kernel)) n
  have c1:=cos_step (A.mono (show (1:Rat)/2≤1 by decide +kernel)) (d:=atS (x+d) n-atS x n) (by rw [show atS x n+(atS (x+d) n-atS x n)=atS (x+d) n by grind];exact A'.mono (by decide +kernel)) n
  rw [show atS x n+(atS (x+d) n-atS x n)=atS (x+d) n by grind] at s1 c1
  have bs:=sin_ab (A.mono (show (1:Rat)/2≤1 by decide +kernel)) n
  have bc:=cos_ab (A.mono (show (1:Rat)/2≤1 by decide +kernel)) n
  have e4:=gS_eq x n
  have b4:=((pw_ab hx (2*n)).alt n).mono (hf_le (show n≤2*(2*n) by omega))
  unfold vS
  generalize sinS (atS (x+d) n) n=s' at *
  generalize cosS (atS (x+d) n) n=c' at *
  generalize sinS (atS x n) n=s at *
  generalize cosS (atS x n) n=c at *
  generalize atS (x+d) n-atS x n=δ at *
  generalize gS x n=G at *
  generalize alt n*pw x (2*n)=r at *
  generalize hf n=H at *
  have k1:=(dn.mul bc).mul b4
  have k2:=st.mul (bc.add (hx.mul bs))
  have k3:=(dn.mul dl).mul bs
  have k4:=s1
  have k5:=hd.mul c1
  have t:=(((k2.sub k1).add k3).add k4).sub k5
  have dH:=rmR d1 h0
  refine (t.congr ?_).mono ?_
  · have e5:c=(G+x*x*G)*c+r*c:=by rw [e4];grind
    have e6:d*c=d*((G+x*x*G)*c+r*c):=by rw [←e5]
    grind
  · grind
theorem vS_zero(n:Nat):vS 0 n=0:=by
  have a:∀ k,pw 0 (k+1)=0:=fun k=>Rat.zero_mul _
  have z:∀ n,atS 0 n=0:=fun n=>by
    induction n with
    | zero=>rfl
    | succ n ih =>
      show atS 0 n+alt n*(pw 0 (2*n+1)*_)=0
      rw [ih,a];grind
  have s:∀ n,sinS 0 n=0:=fun n=>by
    induction n with
    | zero=>rfl
    | succ n ih =>
      show sinS 0 n+alt n*dpw 0 (2*n+1)=0
      rw [ih,dpw_zero];grind
  unfold vS
  rw [z,s];grind
theorem vS_steps{d:Rat}(d0:0≤d){N:Nat}(hN:(N:Rat)*d≤1/4)(n:Nat):∀ j:Nat,j≤N→Ab (vS ((j:Rat)*d) n) ((j:Rat)*(2*(400*(d*d)+8*hf n)))
  | 0,_=>by
    have e:((0:Nat):Rat)=0:=rfl
    rw [e,Rat.zero_mul,Rat.zero_mul,vS_zero];exact Ab.zero Rat.le_refl
  | j+1,hj=>by
    have ih:=vS_steps d0 hN n j (by omega)
    have c1:((j+1:Nat):Rat)=(j:Rat)+1:=Rat.natCast_add j 1
    have le:((j+1:Nat):Rat)*d≤(N:Rat)*d:=rmR (by exact_mod_cast hj) d0
    have j0:=rmN (cast_nonneg j) d0
    rw [c1] at le
    have hx:Ab ((j:Rat)*d) (1/4):=⟨by grind,by grind⟩
    have hd:Ab ((j:Rat)*d+d) (1/4):=⟨by grind,by grind⟩
    have st:=vS_step hx hd d0 (by grind) n
    have g:=gS_ab hx n
    have xg:=(hx.mul g).mono (show (1:Rat)/4*2≤1 by decide +kernel)
    have dn:Ab d d:=⟨by grind,by grind⟩
    have m:=ih.mul (dn.mul xg)
    have E0:0≤400*(d*d)+8*hf n:=by have:=rmN d0 d0;have:=hf_nonneg n;grind
    rw [c1,show ((j:Rat)+1)*d=(j:Rat)*d+d by grind]
    have t:=(st.add ih).add m
    refine (t.congr (by grind)).mono ?_
    have:=rmR (show (j:Rat)*d≤1/4 by grind) E0
    grind
theorem two_hf:∀ n:Nat,((2^n:Nat):Rat)*hf n=1
  | 0=>by rw [hf_zero];decide +kernel
  | n+1=>by
    have ih:=two_hf n
    have e:=hf_succ n
    have c:((2^(n+1):Nat):Rat)=((2^n:Nat):Rat)*2:=by rw [Nat.pow_succ];exact Rat.natCast_mul _ _
    rw [c];grind
theorem one_le_cast(n:Nat):(1:Rat)≤((n+1:Nat):Rat):=by
  have c1:((n+1:Nat):Rat)=(n:Rat)+1:=Rat.natCast_add n 1
  have:=cast_nonneg n
  rw [c1];grind
theorem of_nhf{K e:Rat}(K0:0≤K){n:Nat}(h:((n+1:Nat):Rat)*(K*hf (n+1))≤e):K*hf (n+1)≤e:=by
  have p:=rmN K0 (hf_nonneg (n+1))
  have:=rmR (one_le_cast n) p
  grind
theorem arch(K:Rat)(K0:0≤K){e:Rat}(he:0<e):∃ N:Nat,0<N∧K≤(N:Rat)*e:=by
  obtain ⟨M,hM⟩:=nhf_small K e he
  have h:=of_nhf K0 (hM (M+1) (by omega))
  refine ⟨2^(M+1),Nat.two_pow_pos _,?_⟩
  have t:=two_hf (M+1)
  have:=rmL h (cast_nonneg (2^(M+1)))
  generalize ((2^(M+1):Nat):Rat)=C at *
  have e2:C*(K*hf (M+1))=K*(C*hf (M+1)):=by grind
  rw [e2,t] at this;grind
theorem tan_at{x:Rat}(x0:0≤x)(x1:x≤1/4):Near (fun n=>sinS (atS x n) n) (fun n=>x*cosS (atS x n) n):=fun e he=>by
  obtain ⟨N,N1,hN⟩:=arch 200 (by decide +kernel) he
  have Np:(0:Rat)<(N:Rat):=by exact_mod_cast N1
  have im:=Rat.mul_inv_cancel (N:Rat) (fun h=>by grind)
  have ip:0<(N:Rat)⁻¹:=Rat.inv_pos.2 Np
  obtain ⟨d,hd⟩:∃ d:Rat,d=x*(N:Rat)⁻¹:=⟨_,rfl⟩
  have Nd:(N:Rat)*d=x:=by rw [hd];grind
  have d0:0≤d:=by rw [hd];exact rmN x0 (rlL ip)
  obtain ⟨M,hM⟩:=nhf_small (16*(N:Rat)) (e/2) (by grind)
  refine ⟨M+1,fun n hn=>?_⟩
  obtain ⟨m,rfl⟩:∃ m,n=m+1:=⟨n-1,by omega⟩
  have h2:=of_nhf (by grind) (hM (m+1) (by omega))
  have b:=vS_steps d0 (by rw [Nd];exact x1) (m+1) N (Nat.le_refl N)
  rw [Nd] at b
  have h1:800*(x*d)≤e/2:=by
    have m1:=rmR x1 d0
    have m2:=rmR x1 (rlL ip)
    have m3:=rmR hN (rlL ip)
    have e3:(N:Rat)*e*(N:Rat)⁻¹=e:=by grind
    rw [e3] at m3
    rw [←hd] at m2
    grind
  have e5:(N:Rat)*(2*(400*(d*d)+8*hf (m+1)))=800*(x*d)+16*(N:Rat)*hf (m+1):=by rw [←Nd];grind
  rw [e5] at b
  obtain ⟨b1,b2⟩:=b
  unfold vS at b1 b2
  exact ⟨by grind,by grind⟩
theorem dpw_ab2{t:Rat}(h:Ab t 2):∀ k,Ab (dpw t k) (16*hf k):=by
  have st:∀ (k:Nat) (K:Rat),Ab (dpw t k) K→Ab (((k+1:Nat):Rat)*dpw t (k+1)) (2*K):=fun k K i=>by rw [dpw_succ];exact h.mul i
  have e0:dpw t 0=1:=rfl
  have b0:Ab (dpw t 0) 1:=by rw [e0];exact ⟨by grind,by grind⟩
  have h1:hf 1=1/2:=by have:=hf_one;grind
  have h2:hf 2=1/4:=by have:=hf_succ 1;grind
  have h3:hf 3=1/8:=by have:=hf_succ 2;grind
  have b1:Ab (dpw t 1) 2:=Ab.of_mul (nat_pos 0) ((st 0 1 b0).mono (by rw [show ((0+1:Nat):Rat)=1 from rfl];grind))
  have b2:Ab (dpw t 2) 2:=Ab.of_mul (nat_pos 1) ((st 1 2 b1).mono (by rw [show ((1+1:Nat):Rat)=2 from rfl];grind))
  have b3:Ab (dpw t 3) 2:=Ab.of_mul (nat_pos 2) ((st 2 2 b2).mono (by rw [show ((2+1:Nat):Rat)=3 from rfl];grind))
  have rest:∀ k,Ab (dpw t (k+3)) (16*hf (k+3)):=fun k=>by
    induction k with
    | zero=>exact b3.mono (by rw [h3];decide +kernel)
    | succ k ih =>
      refine Ab.of_mul (nat_pos (k+3)) ((st (k+3) _ ih).mono ?_)
      have e:=hf_succ (k+3)
      have c:((k+3+1:Nat):Rat)=(k:Rat)+4:=Rat.natCast_add k 4
      have p:=rmN (cast_nonneg k) (hf_nonneg (k+3+1))
      rw [c,e];grind
  intro k
  match k with
  | 0=>exact b0.mono (by rw [hf_zero];decide +kernel)
  | 1=>exact b1.mono (by rw [h1];decide +kernel)
  | 2=>exact b2.mono (by rw [h2];decide +kernel)
  | k+3=>exact rest k
theorem cosT_dec2{t:Rat}(h:Ab t 2):Dec 16 (cosT t):=fun i=>((dpw_ab2 h (2*i)).alt i).mono (by have:=hf_mono2 i;grind)
theorem sinT_dec2{t:Rat}(h:Ab t 2):Dec 16 (sinT t):=fun i=>((dpw_ab2 h (2*i+1)).alt i).mono (by have:=hf_mono3 i;grind)
theorem sin_ab2{t:Rat}(h:Ab t 2)(n:Nat):Ab (sinS t n) 32:=(sum_ab (fun i=>sinT_dec2 h i) n).mono (by decide +kernel)
theorem cos_ab2{t:Rat}(h:Ab t 2)(n:Nat):Ab (cosS t n) 32:=(sum_ab (fun i=>cosT_dec2 h i) n).mono (by decide +kernel)
def sinQ(a:Nat→Rat)(n:Nat):Rat:=sinS (a n) n
def cosQ(a:Nat→Rat)(n:Nat):Rat:=cosS (a n) n
def AbS(a:Nat→Rat)(K:Rat):Prop:=∀ n,Ab (a n) K
theorem AbS.mono{a:Nat→Rat}{K L:Rat}(h:AbS a K)(k:K≤L):AbS a L:=fun n=>(h n).mono k
theorem AbS.sin{a:Nat→Rat}(h:AbS a 2):AbS (sinQ a) 32:=fun n=>sin_ab2 (h n) n
theorem AbS.cos{a:Nat→Rat}(h:AbS a 2):AbS (cosQ a) 32:=fun n=>cos_ab2 (h n) n
theorem AbS.mul{a b:Nat→Rat}{K L:Rat}(h:AbS a K)(k:AbS b L):AbS (fun n=>a n*b n) (K*L):=fun n=>(h n).mul (k n)
theorem AbS.add{a b:Nat→Rat}{K L:Rat}(h:AbS a K)(k:AbS b L):AbS (fun n=>a n+b n) (K+L):=fun n=>(h n).add (k n)
theorem Near.mul{s t s' t':Nat→Rat}{K L:Rat}(h:Near s t)(k:Near s' t')(hs:AbS s' K)(ht:AbS t L):Near (fun n=>s n*s' n) (fun n=>t n*t' n):=fun e he=>by
  have K0:=(hs 0).nonneg
  have L0:=(ht 0).nonneg
  obtain ⟨d,d0,hd⟩:∃ d:Rat,0<d∧d*K+L*d≤e:=by
    have p:0<K+L+1:=by grind
    have i:=Rat.inv_pos.2 p
    have im:=Rat.mul_inv_cancel (K+L+1) (fun h=>by grind)
    refine ⟨e*(K+L+1)⁻¹,Rat.mul_pos he i,?_⟩
    have q:=Rat.mul_pos he i
    have:e*(K+L+1)⁻¹*(K+L+1)=e:=by grind
    grind
  obtain ⟨N,h1⟩:=h d d0
  obtain ⟨M,k1⟩:=k d d0
  refine ⟨max N M,fun n hn=>?_⟩
  have a1:=h1 n (by omega)
  have b1:=k1 n (by omega)
  have A:Ab (s n-t n) d:=⟨by grind,by grind⟩
  have B:Ab (s' n-t' n) d:=⟨by grind,by grind⟩
  have m:=(A.mul (hs n)).add ((ht n).mul B)
  have m:=(m.congr (show s n*s' n-t n*t' n=(s n-t n)*s' n+t n*(s' n-t' n) by grind)).mono hd
  exact ⟨by have:=m.2;grind,by have:=m.1;grind⟩
theorem Near.congr{s t s' t':Nat→Rat}(h:Near s t)(e:∀ n,s' n=s n)(k:∀ n,t' n=t n):Near s' t':=by
  rw [show s'=s from funext e,show t'=t from funext k];exact h
theorem cos_add_bd{s t:Rat}(hs:Ab s 2)(ht:Ab t 2)(n:Nat):Ab (cosS (s+t) n-(cosS s n*cosS t n-sinS s n*sinS t n)) ((n:Rat)*(1536*hf n)):=by
  have hA:=cosT_dec2 hs
  have hB:=cosT_dec2 ht
  have hC:=sinT_dec2 hs
  have hD:=sinT_dec2 ht
  have e:∀ n,cosS (s+t) (n+1)=sumTo (conv (cosT s) (cosT t)) (n+1)-sumTo (conv (sinT s) (sinT t)) n:=by
    intro n
    induction n with
    | zero =>
      show (0:Rat)+1*1=0+(0+1*1*(1*1))-0
      grind
    | succ n ih =>
      have h:=cosT_add s t n
      show cosS (s+t) (n+1)+cosT (s+t) (n+1)=(sumTo (conv (cosT s) (cosT t)) (n+1)+conv (cosT s) (cosT t) (n+1))-(sumTo (conv (sinT s) (sinT t)) n+conv (sinT s) (sinT t) n)
      rw [ih,h];grind
  cases n with
  | zero =>
    have z:cosS (s+t) 0-(cosS s 0*cosS t 0-sinS s 0*sinS t 0)=0:=by show (0:Rat)-(0*0-0*0)=0;grind
    rw [z];exact Ab.zero (rmN (cast_nonneg 0) (by have:=hf_nonneg 0;grind))
  | succ n =>
    have p1:=prod_near hA hB (n+1)
    have p2:=prod_near hC hD (n+1)
    have c:=conv_small hC hD n
    have q:=hf_succ n
    have u:sumTo (conv (sinT s) (sinT t)) (n+1)=sumTo (conv (sinT s) (sinT t)) n+conv (sinT s) (sinT t) n:=rfl
    have v1:cosS s (n+1)=sumTo (cosT s) (n+1):=rfl
    have v2:cosS t (n+1)=sumTo (cosT t) (n+1):=rfl
    have v3:sinS s (n+1)=sumTo (sinT s) (n+1):=rfl
    have v4:sinS t (n+1)=sumTo (sinT t) (n+1):=rfl
    rw [e n,v1,v2,v3,v4]
    have r:((n+1:Nat):Rat)*(16*16*hf n)=((n+1:Nat):Rat)*(512*hf (n+1)):=by rw [q];grind
    rw [r] at c
    exact ⟨by grind,by grind⟩
theorem sin_add_bd{s t:Rat}(hs:Ab s 2)(ht:Ab t 2)(n:Nat):Ab (sinS (s+t) n-(cosS s n*sinS t n+sinS s n*cosS t n)) ((n:Rat)*(1536*hf n)):=by
  have p1:=prod_near (cosT_dec2 hs) (sinT_dec2 ht) n
  have p2:=prod_near (sinT_dec2 hs) (cosT_dec2 ht) n
  have e:sinS (s+t) n=sumTo (conv (cosT s) (sinT t)) n+sumTo (conv (sinT s) (cosT t)) n:=by
    rw [←sumTo_add];exact sumTo_congr fun i _=>sinT_add s t i
  have v1:cosS s n=sumTo (cosT s) n:=rfl
  have v2:cosS t n=sumTo (cosT t) n:=rfl
  have v3:sinS s n=sumTo (sinT s) n:=rfl
  have v4:sinS t n=sumTo (sinT t) n:=rfl
  have p:=rmN (cast_nonneg n) (hf_nonneg n)
  rw [e,v1,v2,v3,v4]
  exact ⟨by grind,by grind⟩
theorem near_bdQ{s t:Nat→Rat}{K:Rat}(h:∀ n,Ab (s n-t n) ((n:Rat)*(K*hf n))):Near s t:=near_of_bound (K:=K) fun n=>⟨(h n).2,(h n).1⟩
section
variable {a b:Nat→Rat} (ha:AbS a 2) (hb:AbS b 2)
include ha hb
theorem sinQ_add:Near (sinQ fun n=>a n+b n) (fun n=>cosQ a n*sinQ b n+sinQ a n*cosQ b n):=near_bdQ fun n=>sin_add_bd (ha n) (hb n) n
theorem cosQ_add:Near (cosQ fun n=>a n+b n) (fun n=>cosQ a n*cosQ b n-sinQ a n*sinQ b n):=near_bdQ fun n=>cos_add_bd (ha n) (hb n) n
end
theorem sinQ_neg(a:Nat→Rat)(n:Nat):sinQ (fun n=>-a n) n = -sinQ a n:=sinS_neg (a n) n
theorem cosQ_neg(a:Nat→Rat)(n:Nat):cosQ (fun n=>-a n) n=cosQ a n:=cosS_neg (a n) n
theorem AbS.neg{a:Nat→Rat}{K:Rat}(h:AbS a K):AbS (fun n=>-a n) K:=fun n=>(h n).neg
theorem circleQ{a:Nat→Rat}(ha:AbS a 2):Near (fun n=>cosQ a n*cosQ a n+sinQ a n*sinQ a n) (fun _=>1):=by
  have h:=cosQ_add ha ha.neg
  have h1:Near (cosQ fun n=>a n + -a n) (fun _=>1):=Near.of_eq 1 fun n hn=>by
    obtain ⟨k,rfl⟩:∃ k,n=k+1:=⟨n-1,by omega⟩
    show cosS (a (k+1) + -a (k+1)) (k+1)=1
    rw [Rat.add_neg_cancel,cosS_zero]
  refine Near.trans (Near.of_eq 0 fun n _=>?_) (h.symm.trans h1)
  rw [cosQ_neg,sinQ_neg];grind
theorem apow_pw(n:Int):∀ k,apow n k=pw (n:Rat)⁻¹ (2*k+1)
  | 0=>by show (n:Rat)⁻¹=(n:Rat)⁻¹*1;grind
  | k+1=>by
    have ih:=apow_pw n k
    show apow n k*((n*n:Int):Rat)⁻¹=(n:Rat)⁻¹*((n:Rat)⁻¹*pw (n:Rat)⁻¹ (2*k+1))
    have iv:((n*n:Int):Rat)⁻¹=(n:Rat)⁻¹*(n:Rat)⁻¹:=by
      rw [rcM]
      by_cases h:(n:Rat)=0
      · rw [h];decide +kernel
      · have a:=Rat.mul_inv_cancel (n:Rat) h
        have b:=Rat.mul_inv_cancel ((n:Rat)*(n:Rat)) (fun k=>by rcases Rat.mul_eq_zero.1 k with k | k<;>exact h k)
        generalize ((n:Rat)*(n:Rat))⁻¹=X at *
        generalize (n:Rat)⁻¹=Y at *
        have:X=X*((n:Rat)*Y)*((n:Rat)*Y):=by rw [a];grind
        grind
    rw [ih,iv];grind
theorem at_pw(n:Int)(k:Nat):atT n k=qw (n:Rat)⁻¹ (2*k):=by
  unfold atT qw
  rw [apow_pw]
  have:((2*(k:Int)+1:Int):Rat)=((2*k+1:Nat):Rat):=by
    have h:(2*(k:Int)+1:Int)=((2*k+1:Nat):Int):=by omega
    rw [h];rfl
  rw [this]
theorem sgn_at(n:Int)(m:Nat):sgnS true (atT n) m=atS (n:Rat)⁻¹ m:=sumTo_congr fun k _=>by rw [at_pw];rfl
def qpS(n:Nat):Rat:=1/4*piS n
theorem fifth:Ab ((1:Rat)/5) (1/4)∧Ab ((1:Rat)/239) (1/4):=⟨⟨by decide +kernel,by decide +kernel⟩,⟨by decide +kernel,by decide +kernel⟩⟩
def at5:Nat→Rat:=atS (1/5)
def at239:Nat→Rat:=atS (1/239)
theorem at5_ab:AbS at5 (1/2):=fun n=>atS_ab fifth.1 n
theorem at239_ab:AbS at239 (1/2):=fun n=>atS_ab fifth.2 n
theorem qpS_eq(n:Nat):qpS n=(at5 n+at5 n+(at5 n+at5 n)) + -at239 n:=by
  unfold qpS piS at5 at239
  rw [sgn_at,sgn_at]
  have e1:((5:Int):Rat)⁻¹=1/5:=by decide +kernel
  have e2:((239:Int):Rat)⁻¹=1/239:=by decide +kernel
  rw [e1,e2];grind
theorem twice_tan{a c:Nat→Rat}{q r K:Rat}(ha:AbS a 2)(hc:AbS c K)(h1:Near (sinQ a) (fun n=>q*c n))(h2:Near (cosQ a) (fun n=>r*c n)) :
    Near (sinQ fun n=>a n+a n) (fun n=>2*q*r*(c n*c n))∧Near (cosQ fun n=>a n+a n) (fun n=>(r*r-q*q)*(c n*c n)):=by
  have L:∀ z:Rat,∃ L,AbS (fun n=>z*c n) L:=fun z=>⟨_,fun n=>(show Ab z (z*z+1) from ⟨by have:=sqN (z+1);have:=sqN z;grind,by have:=sqN (z-1);have:=sqN z;grind⟩).mul (hc n)⟩
  obtain ⟨L1,l1⟩:=L q
  obtain ⟨L2,l2⟩:=L r
  have m1:=h1.mul h2 ha.cos l1
  have m2:=h2.mul h2 ha.cos l2
  have m3:=h1.mul h1 ha.sin l1
  have n1:Near (fun n=>cosQ a n*sinQ a n+sinQ a n*cosQ a n) (fun n=>2*q*r*(c n*c n)):=(m1.add m1).congr (fun n=>by grind) (fun n=>by grind)
  have n2:Near (fun n=>cosQ a n*cosQ a n-sinQ a n*sinQ a n) (fun n=>(r*r-q*q)*(c n*c n)):=(m2.sub m3).congr (fun _=>rfl) (fun n=>by grind)
  exact ⟨(sinQ_add ha ha).trans n1,(cosQ_add ha ha).trans n2⟩
theorem qp_like:Near (sinQ qpS) (cosQ qpS):=by
  have A2:AbS (fun n=>at5 n+at5 n) 1:=(at5_ab.add at5_ab).mono (by decide +kernel)
  have A4:AbS (fun n=>at5 n+at5 n+(at5 n+at5 n)) 2:=(A2.add A2).mono (by decide +kernel)
  have B:=at239_ab.neg.mono (show (1:Rat)/2≤2 by decide +kernel)
  have t5:Near (sinQ at5) (fun n=>1/5*cosQ at5 n):=tan_at (by decide +kernel) (by decide +kernel)
  have t9:Near (sinQ at239) (fun n=>1/239*cosQ at239 n):=tan_at (by decide +kernel) (by decide +kernel)
  have c5:=(at5_ab.mono (show (1:Rat)/2≤2 by decide +kernel)).cos
  have c9:=(at239_ab.mono (show (1:Rat)/2≤2 by decide +kernel)).cos
  obtain ⟨u1,u2⟩:=twice_tan (at5_ab.mono (show (1:Rat)/2≤2 by decide +kernel)) c5 t5 ((Near.refl (cosQ at5)).congr (fun _=>rfl) (fun n=>(Rat.one_mul _)))
  obtain ⟨v1,v2⟩:=twice_tan (A2.mono (by decide +kernel)) (c5.mul c5) u1 u2
  have w1:Near (sinQ fun n=>-at239 n) (fun n=>-(1/239*cosQ at239 n)):=t9.neg.congr (fun n=>sinQ_neg at239 n) (fun _=>rfl)
  have w2:Near (cosQ fun n=>-at239 n) (cosQ at239):=(Near.refl _).congr (fun n=>cosQ_neg at239 n) (fun _=>rfl)
  have bB:=c5.mul c5
  have bC:=bB.mul bB
  have bq:∀ z:Rat,∃ L,AbS (fun n=>z*(cosQ at5 n*cosQ at5 n*(cosQ at5 n*cosQ at5 n))) L:=fun z=>⟨_,fun n=>(show Ab z (z*z+1) from ⟨by have:=sqN (z+1);have:=sqN z;grind,by have:=sqN (z-1);have:=sqN z;grind⟩).mul (bC n)⟩
  obtain ⟨L1,l1⟩:=bq (2*(2*(1/5)*1)*(1*1-1/5*(1/5)))
  obtain ⟨L2,l2⟩:=bq ((1*1-1/5*(1/5))*(1*1-1/5*(1/5))-2*(1/5)*1*(2*(1/5)*1))
  have e:qpS=fun n=>at5 n+at5 n+(at5 n+at5 n) + -at239 n:=funext qpS_eq
  have S:=sinQ_add A4 B
  have C:=cosQ_add A4 B
  rw [e]
  have S':=S.trans ((v2.mul w1 B.sin l2).add (v1.mul w2 B.cos l1))
  have C':=C.trans ((v2.mul w2 B.cos l2).sub (v1.mul w1 B.sin l1))
  refine S'.trans (Near.trans (Near.of_eq 0 fun n _=>?_) C'.symm)
  grind
theorem sgn_nonneg{n:Int}(hn:5≤n)(m:Nat):0≤sgnS true (atT n) m :=
  alt_sum_nonneg (D:=atT n) (fun k=>atT_nonneg (by omega) k) (fun k=>by have h:=atT_fall hn k;have p:=atT_nonneg (n:=n) (by omega) (k+1);grind) m
theorem at_nonneg(n:Nat):0≤at5 n∧0≤at239 n:=by
  have h1:=sgn_nonneg (n:=5) (by decide +kernel) n
  have h2:=sgn_nonneg (n:=239) (by decide +kernel) n
  rw [sgn_at] at h1 h2
  rw [show ((5:Int):Rat)⁻¹=1/5 by decide +kernel] at h1
  rw [show ((239:Int):Rat)⁻¹=1/239 by decide +kernel] at h2
  exact ⟨h1,h2⟩
theorem qp_ab:AbS qpS 2:=fun n=>by
  have e:=qpS_eq n
  obtain ⟨a1,a2⟩:=at5_ab n
  obtain ⟨b1,b2⟩:=at239_ab n
  obtain ⟨c1,c2⟩:=at_nonneg n
  rw [e]
  exact ⟨by grind,by grind⟩
theorem sin_lip{a c δ:Rat}(ha:Ab a 1)(hc:Ab c 1)(hd:Ab (a-c) δ)(d1:δ≤1)(n:Nat):Ab (sinS a n-sinS c n) (12*δ):=by
  have s:=sin_step hc (d:=a-c) (by rw [show c+(a-c)=a by grind];exact ha) n
  rw [show c+(a-c)=a by grind] at s
  have q:=hd.sq
  have m:=hd.mul (cos_ab hc n)
  have d0:=hd.nonneg
  have dd:=rmL d1 d0
  exact ((s.add m).congr (by grind)).mono (by grind)
theorem cos_lip{a c δ:Rat}(ha:Ab a 1)(hc:Ab c 1)(hd:Ab (a-c) δ)(d1:δ≤1)(n:Nat):Ab (cosS a n-cosS c n) (12*δ+4*hf n):=by
  have s:=cos_step hc (d:=a-c) (by rw [show c+(a-c)=a by grind];exact ha) n
  rw [show c+(a-c)=a by grind] at s
  have q:=hd.sq
  have m:=hd.mul (sin_ab hc n)
  have d0:=hd.nonneg
  have dd:=rmL d1 d0
  exact ((s.sub m).congr (by grind)).mono (by grind)
theorem tail_ab{b:Nat→Rat}(h:∀ i,Ab (b i) (2*hf i)){n m:Nat}(k:n≤m):Ab (sumTo b m-sumTo b n) (4*hf n):=by
  have:=Dec.tail_le (B:=2) (b:=b) h k
  exact ⟨by grind,by grind⟩
theorem sin_tail{a:Rat}(ha:Ab a 1){n m:Nat}(k:n≤m):Ab (sinS a m-sinS a n) (4*hf n) :=
  tail_ab (fun i=>((dpw_ab ha (2*i+1)).alt i).mono (by have:=hf_mono3 i;grind)) k
theorem cos_tail{a:Rat}(ha:Ab a 1){n m:Nat}(k:n≤m):Ab (cosS a m-cosS a n) (4*hf n) :=
  tail_ab (fun i=>((dpw_ab ha (2*i)).alt i).mono (by have:=hf_mono2 i;grind)) k
theorem hf_small{e:Rat}(he:0<e):∃ N,∀ n,N≤n→16*hf n≤e:=by
  obtain ⟨M,hM⟩:=nhf_small 16 e he
  refine ⟨M+1,fun n hn=>?_⟩
  obtain ⟨m,rfl⟩:∃ m,n=m+1:=⟨n-1,by omega⟩
  exact of_nhf (by decide +kernel) (hM (m+1) (by omega))
theorem enc_along{f:Rat→Nat→Rat}(lip:∀ a c δ:Rat,Ab a 1→Ab c 1→Ab (a-c) δ→δ≤1→∀ n,Ab (f a n-f c n) (12*δ+4*hf n))(tail:∀ a:Rat,Ab a 1→∀ n m,n≤m→Ab (f a m-f a n) (4*hf n))
    {a:Nat→Rat} {lo hi L H:Rat} (ha:Enc a lo hi) (l:-(9/10)≤lo) (h:hi≤9/10) (hs:∀ x,lo≤x→x≤hi→Enc (f x) L H):Enc (fun n=>f (a n) n) L H:=fun e he=>by
  have le:=ha.self
  obtain ⟨δ,d0,d1,d2⟩:∃ δ:Rat,0<δ∧δ≤1/10∧48*δ≤e:=by
    by_cases c:e≤1
    · exact ⟨e/48,by grind,by grind,by grind⟩
    · exact ⟨1/48,by grind,by grind,by grind⟩
  obtain ⟨N,hN⟩:=ha δ d0
  obtain ⟨M,hM⟩:=hf_small (e:=e/2) (by grind)
  refine ⟨max N M,fun n hn=>?_⟩
  have h1:=hN n (by omega)
  have h2:=hM n (by omega)
  obtain ⟨c,c1,c2,c3⟩:∃ c,lo≤c∧c≤hi∧Ab (a n-c) δ:=by
    by_cases k:a n<lo
    · exact ⟨lo,Rat.le_refl,le,by grind,by grind⟩
    · by_cases k':hi<a n
      · exact ⟨hi,le,Rat.le_refl,by grind,by grind⟩
      · exact ⟨a n,by grind,by grind,by grind,by grind⟩
  have cb:Ab c 1:=⟨by grind,by grind⟩
  have ab:Ab (a n) 1:=⟨by grind,by grind⟩
  obtain ⟨K,hK⟩:=hs c c1 c2 (e/4) (by grind)
  have t:=tail c cb n (max n K) (by omega)
  have u:=hK (max n K) (by omega)
  have v:=lip (a n) c δ ab cb c3 (by grind) n
  obtain ⟨t1,t2⟩:=t
  obtain ⟨v1,v2⟩:=v
  exact ⟨by grind,by grind⟩
theorem enc_sinQ{a:Nat→Rat}{lo hi L H:Rat}(ha:Enc a lo hi)(l:-(9/10)≤lo)(h:hi≤9/10)(hs:∀ x,lo≤x→x≤hi→Enc (sinS x) L H):Enc (sinQ a) L H :=
  enc_along (f:=sinS) (fun a c δ ha hc hd d1 n=>(sin_lip ha hc hd d1 n).mono (by have:=hf_nonneg n;grind)) (fun _ ha _ _ k=>sin_tail ha k) ha l h hs
theorem enc_cosQ{a:Nat→Rat}{lo hi L H:Rat}(ha:Enc a lo hi)(l:-(9/10)≤lo)(h:hi≤9/10)(hs:∀ x,lo≤x→x≤hi→Enc (cosS x) L H):Enc (cosQ a) L H :=
  enc_along (f:=cosS) (fun a c δ ha hc hd d1 n=>cos_lip ha hc hd d1 n) (fun _ ha _ _ k=>cos_tail ha k) ha l h hs
def htS(r:Rat)(n:Nat):Rat:=r*piS n
def EvB(a:Nat→Rat)(K:Rat):Prop:=∃ N,∀ n,N≤n→Ab (a n) K
def cutS(N:Nat)(a:Nat→Rat)(n:Nat):Rat:=if n<N then 0 else a n
theorem cutS_ab{N:Nat}{a:Nat→Rat}{K:Rat}(K0:0≤K)(h:∀ n,N≤n→Ab (a n) K):AbS (cutS N a) K:=fun n=>by
  unfold cutS
  split
  · exact Ab.zero K0
  · exact h n (by omega)
theorem cutS_eq{N:Nat}(a:Nat→Rat){n:Nat}(h:N≤n):cutS N a n=a n:=if_neg (by omega)
section
variable {a b:Nat→Rat} (ha:EvB a 2) (hb:EvB b 2)
include ha hb
theorem addE:Near (sinQ fun n=>a n+b n) (fun n=>cosQ a n*sinQ b n+sinQ a n*cosQ b n)∧Near (cosQ fun n=>a n+b n) (fun n=>cosQ a n*cosQ b n-sinQ a n*sinQ b n):=by
  obtain ⟨N,hN⟩:=ha
  obtain ⟨M,hM⟩:=hb
  have h1:=sinQ_add (cutS_ab (by decide +kernel) hN) (cutS_ab (by decide +kernel) hM)
  have h2:=cosQ_add (cutS_ab (by decide +kernel) hN) (cutS_ab (by decide +kernel) hM)
  have e:∀ n,max N M≤n→cutS N a n=a n∧cutS M b n=b n:=fun n hn=>⟨cutS_eq a (by omega),cutS_eq b (by omega)⟩
  refine ⟨((Near.of_eq (max N M) fun n hn=>?_).trans h1).trans (Near.of_eq (max N M) fun n hn=>?_),((Near.of_eq (max N M) fun n hn=>?_).trans h2).trans (Near.of_eq (max N M) fun n hn=>?_)⟩<;>simp only [sinQ,cosQ,(e n hn).1,(e n hn).2]
end
theorem circleE{a:Nat→Rat}(ha:EvB a 2):Near (fun n=>cosQ a n*cosQ a n+sinQ a n*sinQ a n) (fun _=>1):=by
  obtain ⟨N,hN⟩:=ha
  have h:=circleQ (cutS_ab (by decide +kernel) hN)
  refine (Near.of_eq N fun n hn=>?_).trans h
  unfold sinQ cosQ;rw [cutS_eq a hn]
theorem Near.scale{s t:Nat→Rat}(h:Near s t)(k:Rat):Near (fun n=>k*s n) (fun n=>k*t n):=fun e he=>by
  have p:0<k*k+1:=by have:=sqN k;grind
  have ip:=Rat.inv_pos.2 p
  have im:=Rat.mul_inv_cancel (k*k+1) (fun h=>by grind)
  generalize (k*k+1)⁻¹=i at ip im
  obtain ⟨N,hN⟩:=h (e*i) (Rat.mul_pos he ip)
  refine ⟨N,fun n hn=>?_⟩
  have a:=hN n hn
  have A:Ab (s n-t n) (e*i):=⟨by grind,by grind⟩
  have kb:Ab k (k*k+1):=⟨by have:=sqN (k+1);have:=sqN k;grind,by have:=sqN (k-1);have:=sqN k;grind⟩
  have m:=kb.mul A
  have e2:(k*k+1)*(e*i)=e:=by grind
  rw [e2] at m
  obtain ⟨m1,m2⟩:=m
  exact ⟨by grind,by grind⟩
theorem Near.lin{s t s' t':Nat→Rat}(h:Near s t)(k:Near s' t')(a b:Rat):Near (fun n=>a*s n+b*s' n) (fun n=>a*t n+b*t' n):=(h.scale a).add (k.scale b)
theorem piS_ev:∃ N,∀ n,N≤n→3≤piS n∧piS n≤16/5:=by
  obtain ⟨N,hN⟩:=piS_enc (1/100) (by decide +kernel)
  exact ⟨N,fun n hn=>by have:=hN n hn;grind⟩
theorem ht_ev{r:Rat}(h1:-(1/2)≤r)(h2:r≤1/2):EvB (htS r) 2:=by
  obtain ⟨N,hN⟩:=piS_ev
  refine ⟨N,fun n hn=>?_⟩
  obtain ⟨a,b⟩:=hN n hn
  have m:=(show Ab r (1/2) from ⟨h1,h2⟩).mul (show Ab (piS n) (16/5) from ⟨by grind,b⟩)
  exact m.mono (by decide +kernel)
theorem half_turn:Near (sinQ (htS (1/2))) (fun _=>1)∧Near (cosQ (htS (1/2))) (fun _=>0):=by
  have e:htS (1/2)=fun n=>qpS n+qpS n:=funext fun n=>by unfold htS qpS;grind
  have q:=qp_ab
  have s:=sinQ_add q q
  have c:=cosQ_add q q
  have ci:=circleQ q
  have l:=qp_like
  have m1:=l.mul (Near.refl (sinQ qpS)) q.sin q.cos
  have m2:=(Near.refl (cosQ qpS)).mul l.symm q.cos q.cos
  rw [e]
  have z1:Near (fun n=>cosQ qpS n*sinQ qpS n+sinQ qpS n*cosQ qpS n) (fun _=>1):=((m2.add m1).symm.trans ci).congr (fun n=>by grind) (fun _=>rfl)
  have z2:Near (fun n=>cosQ qpS n*cosQ qpS n-sinQ qpS n*sinQ qpS n) (fun _=>0):=(m2.sub m1).congr (fun _=>rfl) (fun n=>by grind)
  exact ⟨s.trans z1,c.trans z2⟩
def cu(n:Int):Rat:=if n % 4=0 then 1 else if n % 4=2 then -1 else 0
def su(n:Int):Rat:=if n % 4=1 then 1 else if n % 4=3 then -1 else 0
theorem cu_val(n:Int):(n % 4=0∧cu n=1∧su n=0)∨(n % 4=1∧cu n=0∧su n=1)∨(n % 4=2∧cu n = -1∧su n=0)∨(n % 4=3∧cu n=0∧su n = -1):=by
  unfold cu su
  rcases (show n % 4=0∨n % 4=1∨n % 4=2∨n % 4=3 by omega) with h | h | h | h<;>rw [h]<;>decide +kernel
theorem cu_add(m n:Int):cu (m+n)=cu m*cu n-su m*su n∧su (m+n)=su m*cu n+cu m*su n:=by
  rcases cu_val m with ⟨a,b,c⟩|⟨a,b,c⟩|⟨a,b,c⟩|⟨a,b,c⟩<;>rcases cu_val n with ⟨a',b',c'⟩|⟨a',b',c'⟩|⟨a',b',c'⟩|⟨a',b',c'⟩<;>rcases cu_val (m+n) with ⟨d,e,f⟩|⟨d,e,f⟩|⟨d,e,f⟩|⟨d,e,f⟩ <;>
    first
    | (exfalso;omega)
    | (rw [b,c,b',c',e,f];decide +kernel)
theorem turS_uv(n:Int)(s c:Nat→Rat):(turS (n % 4) (s,c)).1=(fun i=>s i*cu n+c i*su n)∧(turS (n % 4) (s,c)).2=fun i=>c i*cu n-s i*su n:=by
  rcases cu_val n with ⟨a,b,d⟩|⟨a,b,d⟩|⟨a,b,d⟩|⟨a,b,d⟩<;>rw [a,b,d]<;>constructor<;>funext i<;>simp only [turS]<;>(first | rw [if_pos rfl] | skip)<;>simp<;>grind
theorem enc_turned{S C:Vx}(hS:S.P)(hC:C.P){s c:Nat→Rat}(h:Enc s S.lo.rv S.hi.rv)(k:Enc c C.lo.rv C.hi.rv)(n:Int):Enc (turS n (s,c)).1 (turnP n (S,C)).1.lo.rv (turnP n (S,C)).1.hi.rv∧Enc (turS n (s,c)).2 (turnP n (S,C)).2.lo.rv (turnP n (S,C)).2.hi.rv:=by
  unfold turS turnP
  split
  · exact ⟨k,h.turn hS⟩
  split
  · exact ⟨h.turn hS,k.turn hC⟩
  split
  · exact ⟨k.turn hC,h⟩
  · exact ⟨h,k⟩
theorem enc_less{s t:Nat→Rat}{v u:Vx}{w:Int}(hv:v.P)(hu:u.P)(hw:1≤w)(h:Enc s v.lo.rv v.hi.rv)(k:Enc t u.lo.rv u.hi.rv):Enc (fun n=>s n-t n) (lessV v u w).lo.rv (lessV v u w).hi.rv:=by
  obtain ⟨l,g⟩:=less_best (p:=w) hv hu hw
  have a:=h.add k.neg
  have e:(fun n=>s n + -t n)=fun n=>s n-t n:=funext fun n=>(Rat.sub_eq_add_neg _ _).symm
  rw [e] at a
  exact a.wide (by have:=l.2.1;grind) (by have:=g.2.1;grind)
theorem bv_word{a:Int}(h0:0≤a)(h1:a<18446744073709551616):(BitVec.ofInt 64 a).toNat=a.toNat:=by
  have e:((2^64:Nat):Int)=18446744073709551616:=by decide
  rw [BitVec.toNat_ofInt,e,Int.emod_eq_of_lt h0 h1]
theorem and_pow{a:Int}(h0:0≤a)(h1:a<18446744073709551616){m:Int}(k:Nat)(hk:k≤63)(hm:(BitVec.ofInt 64 m).toNat=2^k-1):bitsI .and .u64 a m=a % ((2^k:Nat):Int):=by
  have key:(BitVec.ofInt 64 a &&& BitVec.ofInt 64 m).toNat=a.toNat % 2^k:=by
    rw [BitVec.toNat_and,bv_word h0 h1,hm,Nat.and_two_pow_sub_one_eq_mod]
  show IntKind.u64.wrap ((BitVec.ofInt 64 a &&& BitVec.ofInt 64 m).toNat:Nat)=_
  rw [key,IntKind.wrap_u64]
  have l:=Nat.mod_lt a.toNat (Nat.two_pow_pos k)
  have l2:2^k≤2^63:=Nat.pow_le_pow_right (by decide) hk
  have c:a % ((2^k:Nat):Int)=((a.toNat % 2^k:Nat):Int):=by rw [Int.natCast_emod,Int.toNat_of_nonneg h0]
  rw [c]
  generalize a.toNat % 2^k=r at *
  omega
theorem or_bit{a:Int}(h0:0≤a)(h1:a<4503599627370496):bitsI .or .u64 a 4503599627370496=a+4503599627370496:=by
  have hm:(BitVec.ofInt 64 4503599627370496).toNat=2^52:=by decide
  have key:(BitVec.ofInt 64 a ||| BitVec.ofInt 64 4503599627370496).toNat=2^52+a.toNat:=by
    rw [BitVec.toNat_or,bv_word h0 (by omega),hm,Nat.or_comm]
    have:=Nat.two_pow_add_eq_or_of_lt (i:=52) (b:=a.toNat) (by omega) 1
    simpa using this.symm
  show IntKind.u64.wrap ((BitVec.ofInt 64 a ||| BitVec.ofInt 64 4503599627370496).toNat:Nat)=_
  rw [key,IntKind.wrap_u64]
  omega
theorem shr_52(x:Int):shrI .u64 x 52=x/4503599627370496:=by
  show x.fdiv (2^(min (52:Int).toNat 64))=_
  rw [Int.fdiv_eq_ediv_of_nonneg _ (by decide)];rfl
theorem shr_63(x:Int):shrI .u64 x 63=x/9223372036854775808:=by
  show x.fdiv (2^(min (63:Int).toNat 64))=_
  rw [Int.fdiv_eq_ediv_of_nonneg _ (by decide)];rfl
def fexp(x:Int):Int:=x/4503599627370496 % 2048
def ffr(x:Int):Int:=x % 4503599627370496
def fneg(x:Int):Bool:=decide (9223372036854775808≤x)
def fltM(x:Int):Int:=if fexp x=0 then ffr x else ffr x+4503599627370496
def fltE(x:Int):Int:=if fexp x=0 then -1074 else fexp x-1075
def fltD(x:Int):Dx:=mkD (fneg x) (fltM x) (fltE x)
def fromR(x:Int):Dx×Int:=if fexp x=2047 then (⟨false,[],0⟩,5) else (fltD x,0)
def tyFd:TyRow:=⟨68,3,true,[.bool false,.int .i64 0,.int .u64 0],.struct [(0,1,false),(1,1,false),(2,1,false)]⟩
def tysF:List TyRow:=tyFd :: tysU
theorem tysF_ok:RowsOk Tryz.prog tysF:=⟨by kernel_rfl,tysU_ok⟩
theorem dFrom_vc(x:Int)(Q:Tv→Prop):execF ⟨tysF,sRaw8⟩ (fun _=>none) 0 Tryz.f44 [.one (.int .u64 x)] Q=((0:Int)≤52∧br (eqI (IntKind.wrap IntKind.i64 (bitsI BinOp.and IntKind.u64 (shrI IntKind.u64 x 52) 2047)) 2047) (Q (Tv.tup [Sv.agg [At.bool false,At.words true [],At.int .i64 0],Sv.one (At.int .i64 5)])) (br (eqI (IntKind.wrap IntKind.i64 (bitsI BinOp.and IntKind.u64 (shrI IntKind.u64 x 52) 2047)) 0) ((0:Int)≤63∧Words [bitsI BinOp.and IntKind.u64 x 4503599627370495]∧inR ((1:Int)-1075)∧((-4611686018427387904:Int)≤1-1075∧(1:Int)-1075≤4611686018427387904)∧Q (Tv.tup [Sv.agg (dyL true (mkD (eqI (shrI IntKind.u64 x 63) 1) (val [bitsI BinOp.and IntKind.u64 x 4503599627370495]) ((1:Int)-1075))),Sv.one (At.int .i64 0)])) ((0:Int)≤63∧Words [bitsI BinOp.or IntKind.u64 (bitsI BinOp.and IntKind.u64 x 4503599627370495) 4503599627370496]∧inR (IntKind.wrap IntKind.i64 (bitsI BinOp.and IntKind.u64 (shrI IntKind.u64 x 52) 2047)-1075)∧((-4611686018427387904:Int)≤IntKind.wrap IntKind.i64 (bitsI BinOp.and IntKind.u64 (shrI IntKind.u64 x 52) 2047)-1075∧IntKind.wrap IntKind.i64 (bitsI BinOp.and IntKind.u64 (shrI IntKind.u64 x 52) 2047)-1075≤4611686018427387904)∧Q (Tv.tup [Sv.agg (dyL true (mkD (eqI (shrI IntKind.u64 x 63) 1) (val [bitsI BinOp.or IntKind.u64 (bitsI BinOp.and IntKind.u64 x 4503599627370495) 4503599627370496]) (IntKind.wrap IntKind.i64 (bitsI BinOp.and IntKind.u64 (shrI IntKind.u64 x 52) 2047)-1075))),Sv.one (At.int .i64 0)])))):=by kernel_rfl
theorem fexp_bd(x:Int):0≤fexp x∧fexp x<2048:=by unfold fexp;omega
theorem ffr_bd(x:Int):0≤ffr x∧ffr x<4503599627370496:=by unfold ffr;omega
theorem val_one1(n:Int):val [n]=n:=by rw [val_cons];simp [val]
theorem words_one{n:Int}(h0:0≤n)(h1:n<18446744073709551616):Words [n]:=fun x hx=>by
  rcases List.mem_singleton.1 hx with rfl;exact ⟨h0,h1⟩
def dFrom:Spec:=specK [.i .u64] fun (x:Int)=>(some (Word x),rdT (fromR x))
theorem dFrom_ok:SpecOk Tryz.prog 44 dFrom :=
  specKW_ok (envOk tysF_ok sRaw8_ok) mixed Tryz.func44 rfl (by decide) (by decide) fun (x:Int) _ hp=>⟨fun _=>none,0,by
    obtain ⟨h0,h1⟩:0≤x∧x<18446744073709551616:=hp
    show execF _ _ _ _ _ (fun t=>t=rdT (fromR x)∨fgT t=rdT (fromR x))
    have e1:IntKind.wrap .i64 (bitsI .and .u64 (shrI .u64 x 52) 2047)=fexp x:=by
      rw [shr_52,and_pow (k:=11) (by omega) (by omega) (by decide) (by decide),IntKind.wrap_i64]
      unfold fexp;omega
    have e2:bitsI .and .u64 x 4503599627370495=ffr x:=and_pow (k:=52) h0 h1 (by decide) (by decide)
    obtain ⟨b0,b1⟩:=ffr_bd x
    obtain ⟨c0,c1⟩:=fexp_bd x
    have e3:bitsI .or .u64 (ffr x) 4503599627370496=ffr x+4503599627370496:=or_bit b0 b1
    have e4:eqI (shrI .u64 x 63) 1=fneg x:=by
      rw [shr_63]
      unfold fneg eqI
      by_cases c:9223372036854775808≤x
      · rw [decide_eq_true c,show x/9223372036854775808=1 by omega];rfl
      · rw [decide_eq_false c,show x/9223372036854775808=0 by omega];rfl
    refine (dFrom_vc x _).mpr ?_
    rw [e1,e2,e3,e4,val_one1,val_one1]
    refine ⟨by omega,br_intro (fun h=>.inr ?_) fun h=>br_intro (fun k=>⟨by omega,words_one b0 (by omega),⟨by omega,by omega⟩,⟨by omega,by omega⟩,.inr ?_⟩) fun k=>⟨by omega,words_one (by omega) (by omega),⟨by omega,by omega⟩,⟨by omega,by omega⟩,.inr ?_⟩⟩
    · rw [fromR,if_pos (eqI_true.1 h)];rfl
    · rw [fromR,if_neg (eqI_false.1 h),fltD,fltM,fltE,if_pos (eqI_true.1 k),if_pos (eqI_true.1 k)];rfl
    · rw [fromR,if_neg (eqI_false.1 h),fltD,fltM,fltE,if_neg (eqI_false.1 k),if_neg (eqI_false.1 k)];rfl⟩
theorem oFin_vc(x:Int)(Q:Tv→Prop):execF ⟨tysF,sRaw8⟩ (fun _=>none) 0 Tryz.f48 [.one (.int .u64 x)] Q=((9223372036854775808:Int)≠0∧Q (bT (ltI (Int.tmod x 9223372036854775808) 9218868437227405312))):=by kernel_rfl
def finB(x:Int):Bool:=!eqI (fexp x) 2047
def oFin:Spec:=specK [.i .u64] fun (x:Int)=>(some (Word x),bT (finB x))
theorem oFin_ok:SpecOk Tryz.prog 48 oFin :=
  specK_ok (envOk tysF_ok sRaw8_ok) mixed Tryz.func48 rfl (by decide) (by decide) fun (x:Int) _ hp=>⟨fun _=>none,0,by
    obtain ⟨h0,h1⟩:0≤x∧x<18446744073709551616:=hp
    show execF _ _ _ _ _ (fun t=>t=bT (finB x))
    refine (oFin_vc x _).mpr ⟨by omega,?_⟩
    have e:ltI (x.tmod 9223372036854775808) 9218868437227405312=finB x:=by
      rw [Int.tmod_eq_emod_of_nonneg h0]
      unfold ltI finB eqI fexp
      by_cases c:x % 9223372036854775808<9218868437227405312
      · have:x/4503599627370496 % 2048≠2047:=by omega
        rw [decide_eq_true c];simp [this]
      · have:x/4503599627370496 % 2048=2047:=by omega
        rw [decide_eq_false c,this];rfl
    rw [e]⟩
theorem oSpl_vc(x:Int)(Q:Tv→Prop):execF ⟨tysF,sRaw8⟩ (fun _=>none) 0 Tryz.f50 [.one (.int .u64 x)] Q=((4503599627370496:Int)≠0∧(2048:Int)≠0∧(4503599627370496:Int)≠0∧Q (Tv.sv (Sv.agg [At.bool (leI 9223372036854775808 x),At.int .i64 (IntKind.wrap IntKind.i64 (Int.tmod (IntKind.wrap IntKind.u64 (Int.tdiv x 4503599627370496)) 2048)),At.int .u64 (Int.tmod x 4503599627370496)]))):=by kernel_rfl
def splX(n:Bool)(e f:Int):Tv:=.sv (.agg [.bool n,.int .i64 e,.int .u64 f])
def oSpl:Spec:=specK [.i .u64] fun (x:Int)=>(some (Word x),splX (fneg x) (fexp x) (ffr x))
theorem oSpl_ok:SpecOk Tryz.prog 50 oSpl :=
  specK_ok (envOk tysF_ok sRaw8_ok) mixed Tryz.func50 rfl (by decide) (by decide) fun (x:Int) _ hp=>⟨fun _=>none,0,by
    obtain ⟨h0,h1⟩:0≤x∧x<18446744073709551616:=hp
    show execF _ _ _ _ _ (fun t=>t=splX (fneg x) (fexp x) (ffr x))
    refine (oSpl_vc x _).mpr ⟨by omega,by omega,by omega,?_⟩
    have e1:IntKind.wrap .i64 (Int.tmod (IntKind.wrap .u64 (Int.tdiv x 4503599627370496)) 2048)=fexp x:=by
      rw [Int.tdiv_eq_ediv_of_nonneg h0,IntKind.wrap_u64,Int.tmod_eq_emod_of_nonneg (by omega),IntKind.wrap_i64]
      unfold fexp;omega
    rw [e1,Int.tmod_eq_emod_of_nonneg h0];rfl⟩
def sFr:List (FuncId×Spec):=[(48,oFin),(50,oSpl),(52,nOf),(51,fForm)]
theorem sFr_ok:SpecsOk Tryz.prog sFr:=⟨oFin_ok,oSpl_ok,nOf_ok,fForm_ok,trivial⟩
theorem fFrom_vc(x:Int)(Q:Tv→Prop):execF ⟨tysF,sFr⟩ (fun _=>none) 0 Tryz.f12 [.one (.int .u64 x)] Q=(Word x∧br (!finB x) (Q (Tv.tup [Sv.agg [At.bool false,At.words true [],At.int .i64 0],Sv.one (At.int .i64 5)])) (Word x∧br (ltI 0 (fexp x)) (inR (fexp x-1075)∧Word (IntKind.wrap IntKind.u64 (ffr x+4503599627370496))∧((-4611686018427387904:Int)≤fexp x-1075∧fexp x-1075≤4611686018427387904)∧true=true∧Q (Tv.tup [Sv.agg (dyL true (mkD (fneg x) (val (ws (IntKind.wrap IntKind.u64 (ffr x+4503599627370496)))) (fexp x-1075))),Sv.one (At.int .i64 0)])) (Word (ffr x)∧((-4611686018427387904:Int)≤(-1074)∧(-1074:Int)≤4611686018427387904)∧true=true∧Q (Tv.tup [Sv.agg (dyL true (mkD (fneg x) (val (ws (ffr x))) (-1074))),Sv.one (At.int .i64 0)])))):=by kernel_rfl
def fFrom:Spec:=specK [.i .u64] fun (x:Int)=>(some (Word x),rdT (fromR x))
theorem fFrom_ok:SpecOk Tryz.prog 12 fFrom :=
  specKW_ok (envOk tysF_ok sFr_ok) mixed Tryz.func12 rfl (by decide) (by decide) fun (x:Int) _ hp=>⟨fun _=>none,0,by
    obtain ⟨h0,h1⟩:0≤x∧x<18446744073709551616:=hp
    show execF _ _ _ _ _ (fun t=>t=rdT (fromR x)∨fgT t=rdT (fromR x))
    obtain ⟨b0,b1⟩:=ffr_bd x
    obtain ⟨c0,c1⟩:=fexp_bd x
    have e1:IntKind.wrap .u64 (ffr x+4503599627370496)=ffr x+4503599627370496:=wrap_small (by omega) (by omega)
    refine (fFrom_vc x _).mpr ⟨⟨h0,h1⟩,br_intro (fun h=>.inr ?_) fun h=>⟨⟨h0,h1⟩,br_intro (fun k=>?_) fun k=>?_⟩⟩
    · have h:finB x=false:=not_true h
      unfold finB at h
      rw [fromR,if_pos (eqI_true.1 (not_false' h))];rfl
    · have h:finB x=true:=not_false' h
      unfold finB at h
      have k:=ltI_true.1 k
      rw [e1,val_ws (by omega)]
      refine ⟨⟨by omega,by omega⟩,⟨by omega,by omega⟩,⟨by omega,by omega⟩,rfl,.inr ?_⟩
      rw [fromR,if_neg (eqI_false.1 (not_true h)),fltD,fltM,fltE,if_neg (by omega),if_neg (by omega)];rfl
    · have h:finB x=true:=not_false' h
      unfold finB at h
      have k:=ltI_false.1 k
      rw [val_ws (by omega)]
      refine ⟨⟨by omega,by omega⟩,⟨by omega,by omega⟩,rfl,.inr ?_⟩
      rw [fromR,if_neg (eqI_false.1 (not_true h)),fltD,fltM,fltE,if_pos (by omega),if_pos (by omega)];rfl⟩
def bothTr(x:Dx)(p:Int):(Vx×Vx)×Int:=if (quarR x (p+32)).2.2=0 then (if (bothR (quarR x (p+32)).2.1 (p+24)).2=0 then (turnP (quarR x (p+32)).1 (bothR (quarR x (p+32)).2.1 (p+24)).1,0) else ((zeroIv,zeroIv),(bothR (quarR x (p+32)).2.1 (p+24)).2)) else ((zeroIv,zeroIv),(quarR x (p+32)).2.2)
def rhS(x:Rat)(n:Int)(i:Nat):Rat:=x-(n:Rat)*(1/2*piS i)
structure QNum (x:Dx) (p:Int) (R:Vx) (n:Int):Prop where
  enc:Enc (rhS x.rv n) R.lo.rv R.hi.rv
  q:R.P
  v:VN (p2 (-p)) R
  r:rightV R=true
  lo:-(9/10)≤R.lo.rv
  hi:R.hi.rv≤9/10
  near:x.rv=0∧n=0∨∃ w,8≤w∧w≤8192∧∀ c,InV (halfP w) c→NearI n (x.rv*c⁻¹)
theorem half_enc{d:Rat}{h:Vx}(k:HfIv d h):Enc (fun i=>1/2*piS i) h.lo.rv h.hi.rv:=(k.enc.scale (c:=1/2) (by decide +kernel)).wide (by grind) (by grind)
theorem rest_enc{h:Vx}{d:Rat}(k:HfIv d h){x:Dx}(hx:0≤x.m){w:Int}(hw:1≤w):Enc (rhS x.rv (nI h x w)) (restW h x w).lo.rv (restW h x w).hi.rv:=by
  have np:0≤(nW h x w).m:=nearD_p
  have a:=enc_point hx
  have b:=enc_point np
  have c:=enc_times (p:=w+64) (pointV_p (nW h x w)) k.p (by omega) b (half_enc k)
  have e:=enc_less (w:=w) (pointV_p x) (trimV_p (prodV (pointV (nW h x w)) h) (w+64)) hw a c
  have en:(nW h x w).rv=(nI h x w:Rat):=(wholeS_rv (d:=nW h x w) nearD_e).symm
  rw [en] at e
  exact e
theorem vn_wide{p:Int}{R:Vx}{z:Rat}(v:VN (p2 (-p)) R)(hp:8≤p)(i:InV R z)(z1:-(4/5)≤z)(z2:z≤4/5):-(9/10)≤R.lo.rv∧R.hi.rv≤9/10:=by
  have e:p2 (-p)≤1/16:=by
    have:=p2_le (show -p≤-4 by omega)
    have e:p2 (-4)=1/16:=by decide +kernel
    rw [e] at this;exact this
  obtain ⟨i1,i2⟩:=i
  rcases v with ⟨a,b⟩|⟨a,b,c⟩|⟨a,b,c⟩
  · rw [a,b];exact ⟨by decide +kernel,by decide +kernel⟩
  · have m:=rmR e (rlL a)
    exact ⟨by grind,by grind⟩
  · have m:=rmR e (rlL a)
    exact ⟨by grind,by grind⟩
theorem quar_num{x:Dx}(hx:0≤x.m){p:Int}(h:(quarR x p).2.2=0):∃ n:Int,(quarR x p).1=n % 4∧QNum x p (quarR x p).2.1 n:=by
  have fy:OneF (oneD x):=oneD_f hx
  have ey:(oneD x).rv=x.rv:=rv_one hx
  have z0:zeroIv.lo.rv=0:=zero_rv
  have z1:zeroIv.hi.rv=0:=zero_rv
  have cq:=cq_of h
  rcases quar_cases x p with ⟨c,_⟩|⟨_,z,q⟩|⟨_,z,t,q⟩|⟨_,z,t,q⟩|⟨_,z,t,w,q⟩
  · exact absurd cq c
  · have x0:x.rv=0:=by rw [←ey];exact rv_zero z
    rw [q]
    refine ⟨0,rfl,?_,⟨Int.le_refl _,Int.le_refl _⟩,.inl ⟨z0,z1⟩,zero_right,by rw [z0];decide +kernel,by rw [z1];decide +kernel,.inl ⟨x0,rfl⟩⟩
    have e:rhS x.rv 0=fun _=>0:=funext fun i=>by
      unfold rhS;rw [x0]
      have:((0:Int):Rat)=0:=rfl
      rw [this];grind
    show Enc (rhS x.rv 0) zeroIv.lo.rv zeroIv.hi.rv
    rw [e,z0,z1];exact Enc.const 0
  · rw [q] at h;cases h
  · rw [q] at h;cases h
  · have hf:=halfP_hf q.w0 (show w≤65000 by have:=q.w1;omega)
    have w1:1≤w:=by have:=q.w0;omega
    have rp:(restW (halfP w) (oneD x) w).P:=⟨cutD_p,cutD_p⟩
    have c2:=cq.2.1
    have nb:narrowB (restW (halfP w) (oneD x) w) p=true:=by
      rw [narrowB,q.right,q.nar,leI_true.2 (show 0≤p by omega)];rfl
    have vn:=nar_of_narrow rp nb
    obtain ⟨cc,dc,_,d1,d2⟩:=hf.common hf
    have n1:=sure_near hf fy.p w1 q.sure dc
    have r1:=rest_in hf fy.p w1 dc
    rw [ey] at n1 r1
    have m1:=hf.enc.meets piS_enc
    have m2:=hf.nar
    have m3:p2 (-3-w)≤1/100:=by
      have:=p2_le (show -3-w≤-7 by have:=q.w0;omega)
      have e:p2 (-7)=1/128:=by decide +kernel
      rw [e] at this;grind
    have m4:cc≤8/5:=by have:=dc.2;grind
    obtain ⟨b1,b2⟩:=near_bd2 d1 m4 n1 rfl
    obtain ⟨g1,g2⟩:=vn_wide vn c2 r1 b1 b2
    have en:=rest_enc hf fy.p w1
    rw [ey] at en
    rw [q.eq]
    exact ⟨nI (halfP w) (oneD x) w,rfl,en,rp,vn,q.right,g1,g2,.inr ⟨w,q.w0,q.w1,fun c hc=>by have:=sure_near hf fy.p w1 q.sure hc;rwa [ey] at this⟩⟩
theorem near_zero0:NearI 0 0:=⟨by decide +kernel,by decide +kernel,fun _=>by decide⟩
theorem small_of{R:Vx}(le:R.lo.rv≤R.hi.rv)(h1:-(9/10)≤R.lo.rv)(h2:R.hi.rv≤9/10):small1 R.lo∧small1 R.hi:=⟨⟨by grind,by grind⟩,⟨by grind,by grind⟩⟩
structure PairQ (x:Dx) (p n:Int) (S C:Vx):Prop where
  k:∃ R,PairOk R (p2 (-19-p)) S C
  s:Enc (sinQ (rhS x.rv n)) S.lo.rv S.hi.rv
  c:Enc (cosQ (rhS x.rv n)) C.lo.rv C.hi.rv
theorem qnum_pair{x:Dx}{p n:Int}{R:Vx}(h:QNum x (p+32) R n)(p0:8≤p)(p1:p≤2064):(bothR R (p+24)=((zeroIv,zeroIv),3)∧rightV (trimV (sinesV (onesV R) (p+24)) (p+24+8))=false)∨∃ S C,bothR R (p+24)=((S,C),0)∧PairQ x p n S C∧PairOk R (p2 (-19-p)) S C:=by
  obtain ⟨s1,s2⟩:=small_of h.enc.self h.lo h.hi
  have f:=right_fits h.r
  have F1:=fault_of (p:=p+24) h.q.1 f.1 s1 (by omega) (by omega)
  have F2:=fault_of (p:=p+24) h.q.2 f.2.1 s2 (by omega) (by omega)
  have e5:p2 (5-(p+24))=p2 (-19-p):=by congr 1;omega
  rcases pair_ok h.q h.r F1 F2 h.v (rlL (p2_pos _)) (p2_le (by omega)) with e | ⟨e,K⟩
  · exact .inl e
  · rw [e5] at K
    exact .inr ⟨_,_,e,⟨⟨R,K⟩,enc_sinQ h.enc h.lo h.hi fun z a b=>K.sin z a b,enc_cosQ h.enc h.lo h.hi fun z a b=>K.cos z a b⟩,K⟩
theorem divV_sm{v u:Vx}{N:Nat}{p:Int}(hv:v.P)(hu:u.P)(sv:v.Sm N)(su:u.Sm N)(p0:0≤p)(p1:p≤N):(divV v u p).Sm (100*N+100):=by
  have o:∀ {a b:Dx} {up:Bool},0≤a.m→0≤b.m→a.Sm N→b.Sm N→(overD a b p up).Sm (100*N+100):=fun ha hb sa sb=>overD_sm ha hb sa sb p0 p1
  have q:∀ up,(quoV v u p up).Sm (100*N+100):=fun up=>spanL_sm (o hv.1 hu.1 sv.1 su.1) (o hv.1 hu.2 sv.1 su.2) (o hv.2 hu.1 sv.2 su.1) (o hv.2 hu.2 sv.2 su.2)
  exact ⟨(q false).1,(q true).2⟩
theorem fltD_p(x:Int):0≤(fltD x).m:=mkD_p
theorem turnV_sm{v:Vx}{N:Nat}(hv:v.P)(h:v.Sm N):(turnV v).Sm (N+N):=⟨negD_sm h.2 hv.2,negD_sm h.1 hv.1⟩
theorem turnV_P(v:Vx):(turnV v).P:=⟨negD_p,negD_p⟩
theorem fltD_f(x:Int):OneF (fltD x):=⟨fneg x,fltM x,fltE x,by unfold fltM;have:=ffr_bd x;split<;>omega,rfl⟩
theorem fltD_bd{x:Int}(h:fexp x≠2047):(fltD x).Bd 1074 1024:=by
  have a:=ffr_bd x
  have b:=fexp_bd x
  have m0:0≤fltM x∧fltM x<9007199254740992:=by unfold fltM;split<;>omega
  have e0:-1074≤fltE x∧fltE x≤971:=by unfold fltE;split<;>omega
  have bl:blen (fltM x)≤53:=blen_le (by omega)
  exact mkD_bd m0.1 (by omega) (by omega) (by omega) (by omega)
theorem hasV_of{v:Vx}(h:rightV v=true){d:Dx}(hf:d.fitsB=true)(i:InV v d.rv):hasV v d=true:=by
  rw [hasV,h,hf,leI_true.2 (cmpD_le.2 i.1),leI_true.2 (cmpD_le.2 i.2)];rfl
theorem encl_parts{v u:Vx}{p:Int}(h:enclB v u p=true):rightV v=true∧narrowB v p=true:=by
  unfold enclB at h
  simp only [Bool.and_eq_true] at h
  exact ⟨h.1,h.2.2.1⟩
theorem one_fits:(mkS 1 0).fitsB=true:=small_fits (by omega)
theorem SpecOk.weaken{P:Program}{f:FuncId}{sp sp':Spec}(h:SpecOk P f sp)(k:∀ l,(match (sp' l).1 with | none=>True | some p=>p)→(match (sp l).1 with | none=>True | some p=>p)∧(sp' l).2=(sp l).2):SpecOk P f sp' :=
  ⟨h.fn,fun C w vs l hC hX hT hvs hp=>by
    obtain ⟨a,b⟩:=k l hp
    rw [b];exact h.run C w vs l hC hX hT hvs a⟩
def tyIv2:TyRow:=⟨90,12,true,zV ++ zV,.array 2 6 true⟩
def tyTn:TyRow:=⟨93,4,true,[.int .i64 0,.int .i64 0,.bool false,.bool false],.struct [(0,1,false),(1,1,false),(2,1,false),(3,1,false)]⟩
def tyTn4:TyRow:=⟨94,16,true,[.int .i64 0,.int .i64 0,.bool false,.bool false,.int .i64 0,.int .i64 0,.bool false,.bool false,.int .i64 0,.int .i64 0,.bool false,.bool false,.int .i64 0,.int .i64 0,.bool false,.bool false],.array 4 4 true⟩
def tyFu2:TyRow:=⟨22,1,false,[.int .u8 0],.int .u8⟩
def tysR:List TyRow:=tyTn4 :: tyTn :: tyIv2 :: tyFu2 :: tys4
theorem tysR_ok:RowsOk Tryz.prog tysR:=⟨by kernel_rfl,by kernel_rfl,by kernel_rfl,by kernel_rfl,tys4_ok⟩
def sgnV(v:Vx)(b:Bool):Vx:=if b=true then turnV v else v
def wSg(g:Vx→Bool→Vx):Spec:=specK [.v,.b] fun (v:Vx) (b:Bool)=>(some (eB 4611686018427387904 v.lo∧eB 4611686018427387904 v.hi),vF (g v b))
theorem rSg_vc(v:Vx)(b:Bool)(Q:Tv→Prop):execF ⟨tysR,sRaw8⟩ (fun _=>none) 0 Tryz.f77 [.agg (ivL false v),.one (.bool b)] Q=(br b ((eB 4611686018427387904 v.lo∧eB 4611686018427387904 v.hi)∧Q (Tv.sv (Sv.agg (ivL true (turnV v))))) (Q (Tv.sv (Sv.agg (ivL false v))))):=by kernel_rfl
def sTb(K:Int)(pq:Dx→Int→Prop)(rf:Dx→Int→Vx×Int)(bo:Vx→Int→(Vx×Vx)×Int)(sg:Vx→Bool→Vx):List (FuncId×Spec):=[(75,specK [.d,.i .i64] fun (x:Dx) (p:Int)=>(some (pq x p),quT (K,rf x p))),(76,specK [.v,.i .i64] fun (v:Vx) (p:Int)=>(none,reT2 (bo v p))),(77,wSg sg)]
theorem rBo0_vc(x:Dx)(p:Int)(pq:Dx→Int→Prop)(rf:Dx→Int→Vx×Int)(bo:Vx→Int→(Vx×Vx)×Int)(sg:Vx→Bool→Vx)(Q:Tv→Prop):execF ⟨tysR,sTb 0 pq rf bo sg⟩ (fun _=>none) 0 Tryz.f45 [.agg (dyL false x),.one (.int .i64 p)] Q=(inR (p+32)∧pq x (p+32)∧br (neI (rf x (p+32)).snd 0) (Q (Tv.tup [Sv.agg [At.bool false,At.words true [],At.int .i64 0,At.bool false,At.words true [],At.int .i64 0],Sv.agg [At.bool false,At.words true [],At.int .i64 0,At.bool false,At.words true [],At.int .i64 0],Sv.one (At.int .i64 (rf x (p+32)).snd)])) (inR (p+24)∧((0:Int)≤0∧(0:Int)<(↑(2:Nat):Int))∧((0:Int)≤1∧(1:Int)<(↑(2:Nat):Int))∧br (neI (bo (rf x (p+32)).fst (p+24)).snd 0) (Q (Tv.tup [Sv.agg [At.bool false,At.words true [],At.int .i64 0,At.bool false,At.words true [],At.int .i64 0],Sv.agg [At.bool false,At.words true [],At.int .i64 0,At.bool false,At.words true [],At.int .i64 0],Sv.one (At.int .i64 (bo (rf x (p+32)).fst (p+24)).snd)])) (((0:Int)≤0∧(0:Int)<(↑(4:Nat):Int))∧((0:Int)≤0∧(0:Int)<(↑(2:Nat):Int))∧(eB 4611686018427387904 (bo (rf x (p+32)).fst (p+24)).fst.fst.lo∧eB 4611686018427387904 (bo (rf x (p+32)).fst (p+24)).fst.fst.hi)∧((0:Int)≤1∧(1:Int)<(↑(2:Nat):Int))∧(eB 4611686018427387904 (bo (rf x (p+32)).fst (p+24)).fst.snd.lo∧eB 4611686018427387904 (bo (rf x (p+32)).fst (p+24)).fst.snd.hi)∧true=true∧Q (Tv.tup [Sv.agg (ivL false (sg (bo (rf x (p+32)).fst (p+24)).fst.fst false)),Sv.agg (ivL false (sg (bo (rf x (p+32)).fst (p+24)).fst.snd false)),Sv.one (At.int .i64 0)])))):=by kernel_rfl
theorem rBo1_vc(x:Dx)(p:Int)(pq:Dx→Int→Prop)(rf:Dx→Int→Vx×Int)(bo:Vx→Int→(Vx×Vx)×Int)(sg:Vx→Bool→Vx)(Q:Tv→Prop):execF ⟨tysR,sTb 1 pq rf bo sg⟩ (fun _=>none) 0 Tryz.f45 [.agg (dyL false x),.one (.int .i64 p)] Q=(inR (p+32)∧pq x (p+32)∧br (neI (rf x (p+32)).snd 0) (Q (Tv.tup [Sv.agg [At.bool false,At.words true [],At.int .i64 0,At.bool false,At.words true [],At.int .i64 0],Sv.agg [At.bool false,At.words true [],At.int .i64 0,At.bool false,At.words true [],At.int .i64 0],Sv.one (At.int .i64 (rf x (p+32)).snd)])) (inR (p+24)∧((0:Int)≤0∧(0:Int)<(↑(2:Nat):Int))∧((0:Int)≤1∧(1:Int)<(↑(2:Nat):Int))∧br (neI (bo (rf x (p+32)).fst (p+24)).snd 0) (Q (Tv.tup [Sv.agg [At.bool false,At.words true [],At.int .i64 0,At.bool false,At.words true [],At.int .i64 0],Sv.agg [At.bool false,At.words true [],At.int .i64 0,At.bool false,At.words true [],At.int .i64 0],Sv.one (At.int .i64 (bo (rf x (p+32)).fst (p+24)).snd)])) (((0:Int)≤1∧(1:Int)<(↑(4:Nat):Int))∧((0:Int)≤1∧(1:Int)<(↑(2:Nat):Int))∧(eB 4611686018427387904 (bo (rf x (p+32)).fst (p+24)).fst.snd.lo∧eB 4611686018427387904 (bo (rf x (p+32)).fst (p+24)).fst.snd.hi)∧((0:Int)≤0∧(0:Int)<(↑(2:Nat):Int))∧(eB 4611686018427387904 (bo (rf x (p+32)).fst (p+24)).fst.fst.lo∧eB 4611686018427387904 (bo (rf x (p+32)).fst (p+24)).fst.fst.hi)∧true=true∧Q (Tv.tup [Sv.agg (ivL false (sg (bo (rf x (p+32)).fst (p+24)).fst.snd false)),Sv.agg (ivL false (sg (bo (rf x (p+32)).fst (p+24)).fst.fst true)),Sv.one (At.int .i64 0)])))):=by kernel_rfl
theorem rBo2_vc(x:Dx)(p:Int)(pq:Dx→Int→Prop)(rf:Dx→Int→Vx×Int)(bo:Vx→Int→(Vx×Vx)×Int)(sg:Vx→Bool→Vx)(Q:Tv→Prop):execF ⟨tysR,sTb 2 pq rf bo sg⟩ (fun _=>none) 0 Tryz.f45 [.agg (dyL false x),.one (.int .i64 p)] Q=(inR (p+32)∧pq x (p+32)∧br (neI (rf x (p+32)).snd 0) (Q (Tv.tup [Sv.agg [At.bool false,At.words true [],At.int .i64 0,At.bool false,At.words true [],At.int .i64 0],Sv.agg [At.bool false,At.words true [],At.int .i64 0,At.bool false,At.words true [],At.int .i64 0],Sv.one (At.int .i64 (rf x (p+32)).snd)])) (inR (p+24)∧((0:Int)≤0∧(0:Int)<(↑(2:Nat):Int))∧((0:Int)≤1∧(1:Int)<(↑(2:Nat):Int))∧br (neI (bo (rf x (p+32)).fst (p+24)).snd 0) (Q (Tv.tup [Sv.agg [At.bool false,At.words true [],At.int .i64 0,At.bool false,At.words true [],At.int .i64 0],Sv.agg [At.bool false,At.words true [],At.int .i64 0,At.bool false,At.words true [],At.int .i64 0],Sv.one (At.int .i64 (bo (rf x (p+32)).fst (p+24)).snd)])) (((0:Int)≤2∧(2:Int)<(↑(4:Nat):Int))∧((0:Int)≤0∧(0:Int)<(↑(2:Nat):Int))∧(eB 4611686018427387904 (bo (rf x (p+32)).fst (p+24)).fst.fst.lo∧eB 4611686018427387904 (bo (rf x (p+32)).fst (p+24)).fst.fst.hi)∧((0:Int)≤1∧(1:Int)<(↑(2:Nat):Int))∧(eB 4611686018427387904 (bo (rf x (p+32)).fst (p+24)).fst.snd.lo∧eB 4611686018427387904 (bo (rf x (p+32)).fst (p+24)).fst.snd.hi)∧true=true∧Q (Tv.tup [Sv.agg (ivL false (sg (bo (rf x (p+32)).fst (p+24)).fst.fst true)),Sv.agg (ivL false (sg (bo (rf x (p+32)).fst (p+24)).fst.snd true)),Sv.one (At.int .i64 0)])))):=by kernel_rfl
theorem rBo3_vc(x:Dx)(p:Int)(pq:Dx→Int→Prop)(rf:Dx→Int→Vx×Int)(bo:Vx→Int→(Vx×Vx)×Int)(sg:Vx→Bool→Vx)(Q:Tv→Prop):execF ⟨tysR,sTb 3 pq rf bo sg⟩ (fun _=>none) 0 Tryz.f45 [.agg (dyL false x),.one (.int .i64 p)] Q=(inR (p+32)∧pq x (p+32)∧br (neI (rf x (p+32)).snd 0) (Q (Tv.tup [Sv.agg [At.bool false,At.words true [],At.int .i64 0,At.bool false,At.words true [],At.int .i64 0],Sv.agg [At.bool false,At.words true [],At.int .i64 0,At.bool false,At.words true [],At.int .i64 0],Sv.one (At.int .i64 (rf x (p+32)).snd)])) (inR (p+24)∧((0:Int)≤0∧(0:Int)<(↑(2:Nat):Int))∧((0:Int)≤1∧(1:Int)<(↑(2:Nat):Int))∧br (neI (bo (rf x (p+32)).fst (p+24)).snd 0) (Q (Tv.tup [Sv.agg [At.bool false,At.words true [],At.int .i64 0,At.bool false,At.words true [],At.int .i64 0],Sv.agg [At.bool false,At.words true [],At.int .i64 0,At.bool false,At.words true [],At.int .i64 0],Sv.one (At.int .i64 (bo (rf x (p+32)).fst (p+24)).snd)])) (((0:Int)≤3∧(3:Int)<(↑(4:Nat):Int))∧((0:Int)≤1∧(1:Int)<(↑(2:Nat):Int))∧(eB 4611686018427387904 (bo (rf x (p+32)).fst (p+24)).fst.snd.lo∧eB 4611686018427387904 (bo (rf x (p+32)).fst (p+24)).fst.snd.hi)∧((0:Int)≤0∧(0:Int)<(↑(2:Nat):Int))∧(eB 4611686018427387904 (bo (rf x (p+32)).fst (p+24)).fst.fst.lo∧eB 4611686018427387904 (bo (rf x (p+32)).fst (p+24)).fst.fst.hi)∧true=true∧Q (Tv.tup [Sv.agg (ivL false (sg (bo (rf x (p+32)).fst (p+24)).fst.snd true)),Sv.agg (ivL false (sg (bo (rf x (p+32)).fst (p+24)).fst.fst false)),Sv.one (At.int .i64 0)])))):=by kernel_rfl
def WkK:(ks:List Ak)→AFun ks→AFun ks→Prop
  | [],g,g'=>(match g'.1 with | none=>True | some p=>p)→(match g.1 with | none=>True | some p=>p)∧g'.2=g.2
  | _ :: ks,g,g'=>∀ x,WkK ks (g x) (g' x)
theorem specK_weaken:∀ {ks:List Ak} {g g':AFun ks},WkK ks g g'→∀ l,(match (specK ks g' l).1 with | none=>True | some p=>p)→(match (specK ks g l).1 with | none=>True | some p=>p)∧(specK ks g' l).2=(specK ks g l).2
  | [],_,_,h,[]=>h
  | [],_,_,_,_ :: _=>fun hp=>hp.elim
  | _ :: _,_,_,_,[]=>fun hp=>hp.elim
  | k :: ks,g,g',h,s :: l=>by
    have e:∀ g:AFun (k :: ks),specK (k :: ks) g (s :: l)=(match k.dec s with | some x=>specK ks (g x) l | none=>noSpec):=fun _=>rfl
    rw [e,e]
    cases k.dec s with
    | none=>exact fun hp=>hp.elim
    | some x=>exact specK_weaken (h x) l
theorem rSg_ok:SpecOk Tryz.prog 77 (wSg sgnV) :=
  specKW_ok (envOk tysR_ok sRaw8_ok) mixed Tryz.func77 rfl (by decide) (by decide) fun (v:Vx) _ (b:Bool) _ hp=>⟨fun _=>none,0,by
    show execF _ _ _ _ _ (fun t=>t=vF (sgnV v b)∨fgT t=vF (sgnV v b))
    refine (rSg_vc v b _).mpr (br_intro (fun h=>⟨hp,.inr ?_⟩) fun h=>.inl ?_)
    · rw [sgnV,if_pos h];rfl
    · rw [sgnV,if_neg (by rw [h];simp)];rfl⟩
def wTr(g:Dx→Int→(Vx×Vx)×Int):Spec:=specK [.d,.i .i64] fun (x:Dx) (p:Int)=>(some (8≤p∧p≤2064),reT2 (g x p))
theorem sTb_ok(K:Int):SpecsOk Tryz.prog (sTb K (fun x p=>(quarR x p).1=K) (fun x p=>(quarR x p).2) bothR sgnV) :=
  ⟨qQu_ok.weaken (specK_weaken fun (x:Dx) (p:Int) (hk:(quarR x p).1=K)=>⟨trivial,by rw [←hk]⟩),rBoth_ok,rSg_ok,trivial⟩
theorem quar_four{x:Dx}(hx:0≤x.m)(p:Int):(quarR x p).1=0∨(quarR x p).1=1∨(quarR x p).1=2∨(quarR x p).1=3:=by
  by_cases h:(quarR x p).2.2=0
  · obtain ⟨n,e,_⟩:=quar_num hx h
    omega
  · left
    rcases quar_cases x p with ⟨_,q⟩|⟨_,_,q⟩|⟨_,_,_,q⟩|⟨_,_,_,q⟩|⟨_,_,_,w,q⟩
    · rw [q]
    · rw [q]
    · rw [q]
    · rw [q]
    · rw [q.eq] at h;exact absurd rfl h
theorem right_eB2{v:Vx}(h:rightV v=true):eB 4611686018427387904 v.lo∧eB 4611686018427387904 v.hi:=⟨(fits_sm (right_fits h).1).eB (by omega),(fits_sm (right_fits h).2.1).eB (by omega)⟩
theorem both_eB{x:Dx}(hx:0≤x.m){p:Int}(p0:8≤p)(p1:p≤2064)(h:(quarR x (p+32)).2.2=0)(k:(bothR (quarR x (p+32)).2.1 (p+24)).2=0):(eB 4611686018427387904 (bothR (quarR x (p+32)).2.1 (p+24)).1.1.lo∧eB 4611686018427387904 (bothR (quarR x (p+32)).2.1 (p+24)).1.1.hi)∧eB 4611686018427387904 (bothR (quarR x (p+32)).2.1 (p+24)).1.2.lo∧eB 4611686018427387904 (bothR (quarR x (p+32)).2.1 (p+24)).1.2.hi:=by
  obtain ⟨n,_,Q⟩:=quar_num hx h
  rcases qnum_pair Q p0 p1 with ⟨e,_⟩|⟨S,C,e,_,K⟩
  · rw [e] at k;cases k
  · rw [e];exact ⟨right_eB2 K.sr,right_eB2 K.cr⟩
theorem tr0(b:Vx×Vx):turnP 0 b=b:=by rw [turnP,if_neg (by decide),if_neg (by decide),if_neg (by decide)]
theorem tr1(b:Vx×Vx):turnP 1 b=(b.2,turnV b.1):=by rw [turnP,if_pos rfl]
theorem tr2(b:Vx×Vx):turnP 2 b=(turnV b.1,turnV b.2):=by rw [turnP,if_neg (by decide),if_pos rfl]
theorem tr3(b:Vx×Vx):turnP 3 b=(turnV b.2,b.1):=by rw [turnP,if_neg (by decide),if_neg (by decide),if_pos rfl]
theorem rBo_ok0{x:Dx}(hx:0≤x.m){p:Int}(p0:8≤p)(p1:p≤2064)(hk:(quarR x (p+32)).1=0):execF ⟨tysR,sTb 0 (fun x p=>(quarR x p).1=0) (fun x p=>(quarR x p).2) bothR sgnV⟩ (fun _=>none) 0 Tryz.f45 [.agg (dyL false x),.one (.int .i64 p)] (fun t=>t=reT2 (bothTr x p)∨fgT t=reT2 (bothTr x p)):=by
  refine (rBo0_vc x p _ (fun x p=>(quarR x p).2) bothR sgnV _).mpr ⟨⟨by omega,by omega⟩,hk,br_intro (fun h=>.inr ?_) fun h=>⟨⟨by omega,by omega⟩,⟨by omega,by omega⟩,⟨by omega,by omega⟩,br_intro (fun k=>.inr ?_) fun k=>?_⟩⟩
  · rw [bothTr,if_neg (neI_true.1 h)];rfl
  · rw [bothTr,if_pos (neI_false.1 h),if_neg (neI_true.1 k)];rfl
  · obtain ⟨e1,e2⟩:=both_eB hx p0 p1 (neI_false.1 h) (neI_false.1 k)
    refine ⟨⟨by omega,by omega⟩,⟨by omega,by omega⟩,e1,⟨by omega,by omega⟩,e2,rfl,.inl ?_⟩
    rw [bothTr,if_pos (neI_false.1 h),if_pos (neI_false.1 k),hk,tr0];rfl
theorem rBo_ok1{x:Dx}(hx:0≤x.m){p:Int}(p0:8≤p)(p1:p≤2064)(hk:(quarR x (p+32)).1=1):execF ⟨tysR,sTb 1 (fun x p=>(quarR x p).1=1) (fun x p=>(quarR x p).2) bothR sgnV⟩ (fun _=>none) 0 Tryz.f45 [.agg (dyL false x),.one (.int .i64 p)] (fun t=>t=reT2 (bothTr x p)∨fgT t=reT2 (bothTr x p)):=by
  refine (rBo1_vc x p _ (fun x p=>(quarR x p).2) bothR sgnV _).mpr ⟨⟨by omega,by omega⟩,hk,br_intro (fun h=>.inr ?_) fun h=>⟨⟨by omega,by omega⟩,⟨by omega,by omega⟩,⟨by omega,by omega⟩,br_intro (fun k=>.inr ?_) fun k=>?_⟩⟩
  · rw [bothTr,if_neg (neI_true.1 h)];rfl
  · rw [bothTr,if_pos (neI_false.1 h),if_neg (neI_true.1 k)];rfl
  · obtain ⟨e1,e2⟩:=both_eB hx p0 p1 (neI_false.1 h) (neI_false.1 k)
    refine ⟨⟨by omega,by omega⟩,⟨by omega,by omega⟩,e2,⟨by omega,by omega⟩,e1,rfl,.inl ?_⟩
    rw [bothTr,if_pos (neI_false.1 h),if_pos (neI_false.1 k),hk,tr1];rfl
theorem rBo_ok2{x:Dx}(hx:0≤x.m){p:Int}(p0:8≤p)(p1:p≤2064)(hk:(quarR x (p+32)).1=2):execF ⟨tysR,sTb 2 (fun x p=>(quarR x p).1=2) (fun x p=>(quarR x p).2) bothR sgnV⟩ (fun _=>none) 0 Tryz.f45 [.agg (dyL false x),.one (.int .i64 p)] (fun t=>t=reT2 (bothTr x p)∨fgT t=reT2 (bothTr x p)):=by
  refine (rBo2_vc x p _ (fun x p=>(quarR x p).2) bothR sgnV _).mpr ⟨⟨by omega,by omega⟩,hk,br_intro (fun h=>.inr ?_) fun h=>⟨⟨by omega,by omega⟩,⟨by omega,by omega⟩,⟨by omega,by omega⟩,br_intro (fun k=>.inr ?_) fun k=>?_⟩⟩
  · rw [bothTr,if_neg (neI_true.1 h)];rfl
  · rw [bothTr,if_pos (neI_false.1 h),if_neg (neI_true.1 k)];rfl
  · obtain ⟨e1,e2⟩:=both_eB hx p0 p1 (neI_false.1 h) (neI_false.1 k)
    refine ⟨⟨by omega,by omega⟩,⟨by omega,by omega⟩,e1,⟨by omega,by omega⟩,e2,rfl,.inl ?_⟩
    rw [bothTr,if_pos (neI_false.1 h),if_pos (neI_false.1 k),hk,tr2];rfl
theorem rBo_ok3{x:Dx}(hx:0≤x.m){p:Int}(p0:8≤p)(p1:p≤2064)(hk:(quarR x (p+32)).1=3):execF ⟨tysR,sTb 3 (fun x p=>(quarR x p).1=3) (fun x p=>(quarR x p).2) bothR sgnV⟩ (fun _=>none) 0 Tryz.f45 [.agg (dyL false x),.one (.int .i64 p)] (fun t=>t=reT2 (bothTr x p)∨fgT t=reT2 (bothTr x p)):=by
  refine (rBo3_vc x p _ (fun x p=>(quarR x p).2) bothR sgnV _).mpr ⟨⟨by omega,by omega⟩,hk,br_intro (fun h=>.inr ?_) fun h=>⟨⟨by omega,by omega⟩,⟨by omega,by omega⟩,⟨by omega,by omega⟩,br_intro (fun k=>.inr ?_) fun k=>?_⟩⟩
  · rw [bothTr,if_neg (neI_true.1 h)];rfl
  · rw [bothTr,if_pos (neI_false.1 h),if_neg (neI_true.1 k)];rfl
  · obtain ⟨e1,e2⟩:=both_eB hx p0 p1 (neI_false.1 h) (neI_false.1 k)
    refine ⟨⟨by omega,by omega⟩,⟨by omega,by omega⟩,e2,⟨by omega,by omega⟩,e1,rfl,.inl ?_⟩
    rw [bothTr,if_pos (neI_false.1 h),if_pos (neI_false.1 k),hk,tr3];rfl
theorem specK_cons{k:Ak}{ks:List Ak}{g:AFun (k :: ks)}{s:Sv}{l:List Sv}:specK (k :: ks) g (s :: l)=(match k.dec s with | some x=>specK ks (g x) l | none=>noSpec):=rfl
theorem specK_di{g:AFun [.d,.i .i64]}{s s':Sv}{x:Dx}{p:Int}(hd:Ak.dec .d s=some x)(hi:Ak.dec (.i .i64) s'=some p):specK [.d,.i .i64] g [s,s']=g x p:=by
  rw [specK_cons,hd]
  show specK [.i .i64] (g x) [s']=_
  rw [specK_cons,hi]
  rfl
theorem specK_di_inv{g:AFun [.d,.i .i64]}:∀ {l:List Sv},(match (specK [.d,.i .i64] g l).1 with | none=>True | some p=>p)→∃ s s' x p,l = [s,s']∧Ak.dec .d s=some x∧Ak.dec (.i .i64) s'=some p
  | [],hp=>hp.elim
  | s :: l,hp=>by
    rw [specK_cons] at hp
    cases h:Ak.dec .d s with
    | none=>rw [h] at hp;exact hp.elim
    | some x =>
      rw [h] at hp
      have hp:(match (specK [.i .i64] (g x) l).1 with | none=>True | some p=>p):=hp
      cases l with
      | nil=>exact hp.elim
      | cons s' l =>
        rw [specK_cons] at hp
        cases k:Ak.dec (.i .i64) s' with
        | none=>rw [k] at hp;exact hp.elim
        | some p =>
          rw [k] at hp
          have hp:(match (specK [] (g x p) l).1 with | none=>True | some p=>p):=hp
          cases l with
          | nil=>exact ⟨s,s',x,p,rfl,h,k⟩
          | cons=>exact hp.elim
theorem SpecOk.cases4{P:Program}{f:FuncId}{pr:Dx→Int→Prop}{g:Dx→Int→Tv}(G:AFun [.d,.i .i64])(Gk:Int→AFun [.d,.i .i64])(K:Dx→Int→Int)(hK:∀ {x:Dx},Dx.Wf x→∀ p,K x p=0∨K x p=1∨K x p=2∨K x p=3)
    (e:∀ (x:Dx) (p:Int),G x p=(some (pr x p),g x p)) (ek:∀ (k:Int) (x:Dx) (p:Int),Gk k x p=(some (pr x p∧K x p=k),g x p)) (h:∀ k:Int,k=0∨k=1∨k=2∨k=3→SpecOk P f (specK [.d,.i .i64] (Gk k))) :
    SpecOk P f (specK [.d,.i .i64] G):=by
  refine ⟨(h 0 (.inl rfl)).fn,fun C w vs l hC hX hT hvs hp=>?_⟩
  obtain ⟨s,s',x,p,rfl,hd,hi⟩:=specK_di_inv hp
  have e1:=(specK_di (g:=G) hd hi).trans (e x p)
  rw [e1] at hp ⊢
  have wx:Dx.Wf x:=by
    cases vs with
    | nil=>exact hvs.elim
    | cons v vs=>exact (dec_ok (k:=.d) hd hvs.1).1
  have e2:=(specK_di (g:=Gk (K x p)) hd hi).trans (ek (K x p) x p)
  have:=(h (K x p) (hK wx p)).run C w vs [s,s'] hC hX hT hvs (by rw [e2];exact ⟨hp,rfl⟩)
  rw [e2] at this
  exact this
theorem rBo_ok:SpecOk Tryz.prog 45 (wTr bothTr):=by
  have one:∀ K:Int,(∀ {x:Dx} (_:0≤x.m) {p:Int} (_:8≤p) (_:p≤2064) (_:(quarR x (p+32)).1=K),execF ⟨tysR,sTb K (fun x p=>(quarR x p).1=K) (fun x p=>(quarR x p).2) bothR sgnV⟩ (fun _=>none) 0 Tryz.f45 [.agg (dyL false x),.one (.int .i64 p)] (fun t=>t=reT2 (bothTr x p)∨fgT t=reT2 (bothTr x p)))→SpecOk Tryz.prog 45 (specK [.d,.i .i64] fun (x:Dx) (p:Int)=>(some ((8≤p∧p≤2064)∧(quarR x (p+32)).1=K),reT2 (bothTr x p))):=fun K h =>
    specKW_ok (envOk tysR_ok (sTb_ok K)) mixed Tryz.func45 rfl (by decide) (by decide) fun (x:Dx) hw (p:Int) _ hp=>⟨fun _=>none,0,h (Dx.Wf.m0 hw) hp.1.1 hp.1.2 hp.2⟩
  exact SpecOk.cases4 (fun (x:Dx) (p:Int)=>(some (8≤p∧p≤2064),reT2 (bothTr x p))) (fun (k:Int) (x:Dx) (p:Int)=>(some ((8≤p∧p≤2064)∧(quarR x (p+32)).1=k),reT2 (bothTr x p))) (fun x p=>(quarR x (p+32)).1) (fun {x} hw p=>quar_four (Dx.Wf.m0 hw) (p+32)) (fun _ _=>rfl) (fun _ _ _=>rfl) fun k hk=>by
    rcases hk with rfl | rfl | rfl | rfl
    · exact one 0 rBo_ok0
    · exact one 1 rBo_ok1
    · exact one 2 rBo_ok2
    · exact one 3 rBo_ok3
theorem flt_fits{d:Dx}(fd:OneF d)(hb:d.Bd 1074 1024):d.fitsB=true:=fits_bd2 fd (hb.mono (by omega) (by omega))
theorem flt_top{d:Dx}(fd:OneF d)(hb:d.Bd 1074 1024):topD (oneD d)<1024:=by
  have h:=hb.hi
  rw [oneD_id fd]
  show d.e+blen d.m-1<1024
  omega
theorem flt_inX{d:Dx}(fd:OneF d)(hb:d.Bd 1074 1024):inX d:=inX_of fd.p (flt_fits fd hb) (flt_top fd hb)
structure FltPair (d:Dx) (p:Int) (S C:Vx) (n:Int):Prop where
  k:(quarR d (p+32)).1=n % 4
  qn:QNum d (p+32) (quarR d (p+32)).2.1 n
  e:bothR (quarR d (p+32)).2.1 (p+24)=((S,C),0)
  q:PairQ d p n S C
  K:PairOk (quarR d (p+32)).2.1 (p2 (-19-p)) S C
  s:d.rv=0∧n=0∧S=zeroIv∨d.rv≠0∧VM (p2 (-19-p)) (p2 (-8263)) (p2 5) S
  c:VM (p2 (-19-p)) (p2 (-3)) (p2 3) C
theorem pair_cv{v S C:Vx}{η:Rat}(K:PairOk v η S C):VM η (p2 (-3)) (p2 3) C:=by
  have e3:p2 (-3)=1/8:=by decide +kernel
  have e4:p2 3=8:=by decide +kernel
  have c0:=K.c0
  have c1:=K.c1
  exact .inl ⟨p2_pos _,by rw [e3];exact c0,by rw [e4];exact c1,K.cn⟩
theorem flt_pair{d:Dx}(fd:OneF d)(hb:d.Bd 1074 1024){p:Int}(p0:8≤p)(p1:p≤2064)(h:(quarR d (p+32)).2.2=0):∃ S C n,FltPair d p S C n:=by
  obtain ⟨n,kn,Q⟩:=quar_num fd.p h
  by_cases z:d.rv=0
  · have n0:n=0:=by
      rcases Q.near with ⟨_,b⟩|⟨w,w0,w1,f⟩
      · exact b
      · have hf:=halfP_hf w0 (show w≤65000 by omega)
        have:=f (halfP w).lo.rv ⟨Rat.le_refl,hf.le⟩
        rw [z,Rat.zero_mul] at this
        exact this.uniq near_zero0
    have e:(quarR d (p+32)).2.1=zeroIv:=by
      have zm:(oneD d).m=0:=Classical.byContradiction fun k=>by
        have:(oneD d).rv=0:=by rw [rv_one fd.p,z]
        have:=(zeroB_rv (d:=oneD d) oneD_p).2 this
        exact k (zeroB_true.1 this)
      rcases quar_cases d (p+32) with ⟨_,q⟩|⟨_,_,q⟩|⟨_,k,_⟩|⟨_,k,_⟩|⟨_,k,_⟩
      · rw [q]
      · rw [q]
      all_goals exact absurd zm k
    rcases qnum_pair Q p0 p1 with ⟨_,k⟩|⟨S,C,e',PQ,K⟩
    · exfalso
      rw [e] at k
      have:sinesV (onesV zeroIv) (p+24)=zeroIv:=by
        have o:oneD (⟨false,[],0⟩:Dx)=⟨false,[],0⟩:=oneD_id ⟨false,0,0,by decide,rfl⟩
        have s:sineV ⟨false,[],0⟩ (p+24)=zeroIv:=by rw [sineV,if_pos (show Dx.zeroB ⟨false,[],0⟩=true from rfl)]
        show (⟨(sineV (oneD ⟨false,[],0⟩) (p+24)).lo,(sineV (oneD ⟨false,[],0⟩) (p+24)).hi⟩:Vx)=zeroIv
        rw [o,s]
      rw [this,trim_zero _ (by omega),zero_right] at k
      cases k
    · have z0:zeroIv.lo.rv=0:=zero_rv
      have z1:zeroIv.hi.rv=0:=zero_rv
      have sz:S=zeroIv:=K.z (by rw [e,z0]) (by rw [e,z1])
      exact ⟨S,C,n,kn,Q,e',PQ,K,.inl ⟨z,n0,sz⟩,pair_cv K⟩
  · obtain ⟨s1,s2⟩:=small_of Q.enc.self Q.lo Q.hi
    obtain ⟨S,C,e,v,K⟩:=quar_both fd.p fd hb (flt_inX fd hb) z p0 p1 h s1 s2 Q.r Q.q
    rcases qnum_pair Q p0 p1 with ⟨k,_⟩|⟨S',C',e',PQ,K'⟩
    · rw [k] at e;cases e
    · rw [e'] at e
      obtain ⟨rfl,rfl⟩:S'=S∧C'=C:=by cases e;exact ⟨rfl,rfl⟩
      exact ⟨S',C',n,kn,Q,e',PQ,K',.inr ⟨z,v⟩,pair_cv K⟩
theorem FltPair.half{d:Dx}{p n:Int}{S C:Vx}(h:FltPair d p S C n):Half (p2 (-19-p)) S (sinQ (rhS d.rv n))∧Half (p2 (-19-p)) C (cosQ (rhS d.rv n)):=by
  obtain ⟨R,K⟩:=h.q.k
  have c0:=K.c0
  have c1:=K.c1
  exact ⟨⟨K.sp,K.sf,K.sr,K.st,K.s32,h.q.s⟩,⟨K.cp,K.cf,K.cr,.inr (.inl K.cn),⟨by grind,by grind⟩,h.q.c⟩⟩
theorem bothTr_eq{d:Dx}{p n:Int}{S C:Vx}(h:FltPair d p S C n)(h0:(quarR d (p+32)).2.2=0):bothTr d p=(turnP (n % 4) (S,C),0):=by
  rw [bothTr,if_pos h0,h.e,if_pos rfl,h.k]
def wIs17(is:Int→Bool):Spec:=specK [.i .u8] fun (f:Int)=>(none,bT (is f))
theorem rIs_vc(f:Int)(Q:Tv→Prop):execF ⟨tysR,[]⟩ (fun _=>none) 0 Tryz.f14 [.one (.int .u8 f)] Q=(br (leI 13 f) (Q (bT (leI f 15))) (Q (bT false))):=by kernel_rfl
def sEp17(is:Int→Bool)(fr:Int→Dx×Int)(of:Dx→Int→(Vx×Vx)×Int)(tr:Vx→Int→Vx)(dv:Vx→Vx→Int→Vx):List (FuncId×Spec):=[(14,wIs17 is),(44,specK [.i .u64] fun (x:Int)=>(some (Word x),rdT (fr x))),(46,specK [.v,.v,.i .i64] fun (v:Vx) (u:Vx) (p:Int)=>(some (v.Sm 67108864∧u.Sm 67108864∧u.lo.m≠0∧u.hi.m≠0∧0≤p∧p≤67108864),vF (dv v u p))),(45,wTr of),(47,specK [.v,.i .i64] fun (v:Vx) (p:Int)=>(some (v.Sm 34359738368∧0≤p∧p≤1099511627776),vT (tr v p)))]
theorem rEp_vc(f x p:Int)(is:Int→Bool)(fr:Int→Dx×Int)(of:Dx→Int→(Vx×Vx)×Int)(tr:Vx→Int→Vx)(dv:Vx→Vx→Int→Vx)(Q:Tv→Prop):execF ⟨tysR,sEp17 is fr of tr dv⟩ (fun _=>none) 0 Tryz.f10 [.one (.int .u8 f),.one (.int .u64 x),.one (.int .i64 p)] Q=(br (!is f) (Q (Tv.tup [Sv.agg [At.bool false,At.words true [],At.int .i64 0,At.bool false,At.words true [],At.int .i64 0],Sv.one (At.int .i64 2)])) (br (ltI p 8) (Q (Tv.tup [Sv.agg [At.bool false,At.words true [],At.int .i64 0,At.bool false,At.words true [],At.int .i64 0],Sv.one (At.int .i64 2)])) (br (ltI 2048 p) (Q (Tv.tup [Sv.agg [At.bool false,At.words true [],At.int .i64 0,At.bool false,At.words true [],At.int .i64 0],Sv.one (At.int .i64 2)])) (Word x∧br (neI (fr x).snd 0) (Q (Tv.tup [Sv.agg [At.bool false,At.words true [],At.int .i64 0,At.bool false,At.words true [],At.int .i64 0],Sv.one (At.int .i64 (fr x).snd)])) (((8:Int)≤p∧p≤2064)∧br (neI (of (fr x).fst p).snd 0) (Q (Tv.tup [Sv.agg [At.bool false,At.words true [],At.int .i64 0,At.bool false,At.words true [],At.int .i64 0],Sv.one (At.int .i64 (of (fr x).fst p).snd)])) (br (eqI f 14) (inR (p+8)∧(Vx.Sm 34359738368 (of (fr x).fst p).fst.snd∧(0:Int)≤p+8∧p+8≤1099511627776)∧Q (Tv.tup [Sv.agg (ivL true (tr (of (fr x).fst p).fst.snd (p+8))),Sv.one (At.int .i64 0)])) (br (eqI f 15) (inR (p+24)∧(Vx.Sm 67108864 (of (fr x).fst p).fst.fst∧Vx.Sm 67108864 (of (fr x).fst p).fst.snd∧Dx.m (of (fr x).fst p).fst.snd.lo≠0∧Dx.m (of (fr x).fst p).fst.snd.hi≠0∧(0:Int)≤p+24∧p+24≤67108864)∧inR (p+8)∧(Vx.Sm 34359738368 (dv (of (fr x).fst p).fst.fst (of (fr x).fst p).fst.snd (p+24))∧(0:Int)≤p+8∧p+8≤1099511627776)∧Q (Tv.tup [Sv.agg (ivL true (tr (dv (of (fr x).fst p).fst.fst (of (fr x).fst p).fst.snd (p+24)) (p+8))),Sv.one (At.int .i64 0)])) (inR (p+8)∧(Vx.Sm 34359738368 (of (fr x).fst p).fst.fst∧(0:Int)≤p+8∧p+8≤1099511627776)∧Q (Tv.tup [Sv.agg (ivL true (tr (of (fr x).fst p).fst.fst (p+8))),Sv.one (At.int .i64 0)]))))))))):=by kernel_rfl
theorem bothTr_right{x:Dx}(hx:0≤x.m){p:Int}(p0:8≤p)(p1:p≤2064)(h:(bothTr x p).2=0):∃ s c,Half (p2 (-19-p)) (bothTr x p).1.1 s∧Half (p2 (-19-p)) (bothTr x p).1.2 c:=by
  unfold bothTr at h ⊢
  split at h
  · rename_i h1
    rw [if_pos h1]
    split at h
    · rename_i h2
      rw [if_pos h2]
      obtain ⟨n,_,Q⟩:=quar_num hx h1
      rcases qnum_pair Q p0 p1 with ⟨e,_⟩|⟨S,C,e,PQ,K⟩
      · rw [e] at h2;cases h2
      · rw [e]
        have c0:=K.c0
        have c1:=K.c1
        obtain ⟨a,b⟩:=turn_half (show Half (p2 (-19-p)) S (sinQ (rhS x.rv n)) from ⟨K.sp,K.sf,K.sr,K.st,K.s32,PQ.s⟩) (show Half (p2 (-19-p)) C (cosQ (rhS x.rv n)) from ⟨K.cp,K.cf,K.cr,.inr (.inl K.cn),⟨by grind,by grind⟩,PQ.c⟩) (quarR x (p+32)).1
        exact ⟨_,_,a,b⟩
    · rename_i h2;exact absurd h h2
  · rename_i h1;exact absurd h h1
def isTr(f:Int):Bool:=leI 13 f && leI f 15
theorem rIs_ok:SpecOk Tryz.prog 14 (wIs17 isTr) :=
  specK_ok (envOk (S:=[]) tysR_ok trivial) mixed Tryz.func14 rfl (by decide) (by decide) fun (f:Int) _ _=>⟨fun _=>none,0,by
    show execF _ _ _ _ _ (fun t=>t=bT (isTr f))
    refine (rIs_vc f _).mpr (br_intro (fun h=>?_) fun h=>?_)<;>rw [isTr,h]<;>rfl⟩
def encTr(f x p:Int):Vx×Int :=
  if isTr f=true∧8≤p∧p≤2048 then
    if fexp x=2047 then (zeroIv,5) else
    if (bothTr (fltD x) p).2=0 then
      if f=14 then (trimV (bothTr (fltD x) p).1.2 (p+8),0) else
      if f=15 then (trimV (divV (bothTr (fltD x) p).1.1 (bothTr (fltD x) p).1.2 (p+24)) (p+8),0) else
      (trimV (bothTr (fltD x) p).1.1 (p+8),0)
    else (zeroIv,(bothTr (fltD x) p).2)
  else (zeroIv,2)
theorem flt_z{x:Int}(e:¬ fexp x=2047){p:Int}(p0:8≤p)(p1:p≤2048)(h:(bothTr (fltD x) p).2=0):Off0 (bothTr (fltD x) p).1.2∧(bothTr (fltD x) p).1.2.lo.rv≤(bothTr (fltD x) p).1.2.hi.rv:=by
  have h0:(quarR (fltD x) (p+32)).2.2=0:=by
    unfold bothTr at h;split at h
    · assumption
    · exact h
  obtain ⟨S,C,n,F⟩:=flt_pair (fltD_f x) (fltD_bd e) p0 (by omega) h0
  obtain ⟨hs,hc⟩:=F.half
  rw [bothTr_eq F h0]
  obtain ⟨_,xc⟩:=turn_half hs hc (n % 4)
  refine ⟨?_,xc.e.self⟩
  have oc:=vm_off F.c
  rcases F.s with ⟨_,rfl,_⟩|⟨_,sv⟩
  · rw [show (0:Int) % 4=0 from rfl,tr0];exact oc
  · have os:=vm_off sv
    rcases (show n % 4=0∨n % 4=1∨n % 4=2∨n % 4=3 by omega) with k | k | k | k<;>rw [k]
    · rw [tr0];exact oc
    · rw [tr1];exact os.turn hs.p
    · rw [tr2];exact oc.turn hc.p
    · rw [tr3];exact os
def rEp:Spec:=specK [.i .u8,.i .u64,.i .i64] fun (f x p:Int)=>(some (Word x),reT (encTr f x p))
theorem sEp17_ok:SpecsOk Tryz.prog (sEp17 isTr fromR bothTr trimV divV):=⟨rIs_ok,dFrom_ok,rDiv_ok,rBo_ok,rTrim_ok,trivial⟩
theorem rEp_ok:SpecOk Tryz.prog 10 rEp :=
  specKW_ok (envOk tysR_ok sEp17_ok) mixed Tryz.func10 rfl (by decide) (by decide) fun (f:Int) _ (x:Int) _ (p:Int) _ hp=>⟨fun _=>none,0,by
    have hw:Word x:=hp
    show execF _ _ _ _ _ (fun t=>t=reT (encTr f x p)∨fgT t=reT (encTr f x p))
    refine (rEp_vc f x p isTr fromR bothTr trimV divV _).mpr (br_intro (fun h=>.inr ?_) fun h=>br_intro (fun h'=>.inr ?_) fun h'=>br_intro (fun h''=>.inr ?_) fun h''=>⟨hw,br_intro (fun k=>.inr ?_) fun k=>?_⟩)
    · rw [encTr,if_neg (by rw [not_true h];simp)];rfl
    · have:=ltI_true.1 h'
      rw [encTr,if_neg (by omega)];rfl
    · have:=ltI_true.1 h''
      rw [encTr,if_neg (by omega)];rfl
    · have c:isTr f=true∧8≤p∧p≤2048:=⟨not_false' h,by have:=ltI_false.1 h';omega,by have:=ltI_false.1 h'';omega⟩
      have k:=neI_true.1 k
      have e:fexp x=2047:=Classical.byContradiction fun c=>k (by rw [fromR,if_neg c])
      rw [encTr,if_pos c,if_pos e,fromR,if_pos e];rfl
    have c:isTr f=true∧8≤p∧p≤2048:=⟨not_false' h,by have:=ltI_false.1 h';omega,by have:=ltI_false.1 h'';omega⟩
    have k:=neI_false.1 k
    have e:¬ fexp x=2047:=fun c=>by rw [fromR,if_pos c] at k;cases k
    have ef:fromR x=(fltD x,0):=by rw [fromR,if_neg e]
    rw [ef]
    refine ⟨⟨by omega,by omega⟩,br_intro (fun z=>.inr ?_) fun z=>?_⟩
    · rw [encTr,if_pos c,if_neg e,if_neg (neI_true.1 z)];rfl
    have z:=neI_false.1 z
    obtain ⟨s,t,hs,ht⟩:=bothTr_right (fltD_p x) c.2.1 (by omega) z
    obtain ⟨oz,lz⟩:=flt_z e c.2.1 c.2.2 z
    have ss:=right_sm hs.r
    have st:=right_sm ht.r
    have zm:(bothTr (fltD x) p).1.2.lo.m≠0∧(bothTr (fltD x) p).1.2.hi.m≠0:=by
      rcases oz with o | o
      · exact ⟨rv_ne (by grind),rv_ne (by grind)⟩
      · exact ⟨rv_ne (by grind),rv_ne (by grind)⟩
    have sd:=divV_sm (p:=p+24) hs.p ht.p ss st (by omega) (by omega)
    refine br_intro (fun f1=>⟨⟨by omega,by omega⟩,⟨st.mono (by omega),by omega,by omega⟩,.inr ?_⟩) fun f1=>br_intro (fun f2=>⟨⟨by omega,by omega⟩,⟨ss.mono (by omega),st.mono (by omega),zm.1,zm.2,by omega,by omega⟩,⟨by omega,by omega⟩,⟨sd.mono (by omega),by omega,by omega⟩,.inr ?_⟩) fun f2=>⟨⟨by omega,by omega⟩,⟨ss.mono (by omega),by omega,by omega⟩,.inr ?_⟩
    · rw [encTr,if_pos c,if_neg e,if_pos z,if_pos (eqI_true.1 f1)];rfl
    · rw [encTr,if_pos c,if_neg e,if_pos z,if_neg (eqI_false.1 f1),if_pos (eqI_true.1 f2)];rfl
    · rw [encTr,if_pos c,if_neg e,if_pos z,if_neg (eqI_false.1 f1),if_neg (eqI_false.1 f2)];rfl⟩
def sLv17(fE:Int→Int→Int→Vx×Int)(fI:Int→Dx)(fH:Vx→Dx→Bool)(fS:Vx→Vx→Bool)(fN:Vx→Int→Bool)(fO:Dx→Dx→Int)(is:Int→Bool):List (FuncId×Spec):=[(10,specK [.i .u8,.i .u64,.i .i64] fun (f x p:Int)=>(some (Word x),reT (fE f x p))),(22,specK [.i .i64] fun (n:Int)=>(some (inR n),dT (fI n))),(54,specK [.v,.d] fun (v:Vx) (d:Dx)=>(none,bT (fH v d))),(53,xVVb fS),(55,xVIb fN),(29,xDDi fO),(14,wIs17 is)]
theorem lLv17_vc(fE:Int→Int→Int→Vx×Int)(fI:Int→Dx)(fH:Vx→Dx→Bool)(fS:Vx→Vx→Bool)(fN:Vx→Int→Bool)(fO:Dx→Dx→Int)(is:Int→Bool)(Q:Tv→Prop):execF ⟨tysR,sLv17 fE fI fH fS fN fO is⟩ (fun _=>none) 0 Tryz.f13 [] Q=(Word 0∧Word 0∧Word 4607182418800017408∧Word 9218868437227405312∧br (eqI (fE 13 0 64).snd 0) (br (fS (fE 13 0 64).fst (Vx.mk (Dx.mk false [] 0) (Dx.mk false [] 0))) (br (eqI (fE 14 0 64).snd 0) (inR 1∧br (fH (fE 14 0 64).fst (fI 1)) (br (eqI (fE 15 4607182418800017408 64).snd 0) (inR 1∧(Dx.Sm 34359738368 (fE 15 4607182418800017408 64).fst.lo∧Dx.Sm 34359738368 (fI 1))∧br (ltI 0 (fO (fE 15 4607182418800017408 64).fst.lo (fI 1))) (br (fN (fE 15 4607182418800017408 64).fst 64) (br (eqI (fE 15 9218868437227405312 64).snd 5) (true=true∧Q (bT (is 15))) (true=true∧Q (bT false))) (true=true∧Q (bT false))) (true=true∧Q (bT false))) (true=true∧Q (bT false))) (true=true∧Q (bT false))) (true=true∧Q (bT false))) (true=true∧Q (bT false))) (true=true∧Q (bT false))):=by kernel_rfl
end Go.Proofs.YtenkjloaghmjfaaGreatDoor
