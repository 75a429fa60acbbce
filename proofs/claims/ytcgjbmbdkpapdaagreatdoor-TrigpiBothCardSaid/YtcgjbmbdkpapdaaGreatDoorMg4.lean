/-
Symbolic execution, eighteenth part: words of functions that may write a box of their caller, told by patterns.
Sums of terms that fall by twelfths, in fixed point: inverse tangents, plain and hyperbolic. Plain.
The inverse tangents of 1 / n, plain and hyperbolic, in fixed point. Plain.
Sizes of the inverse tangents' sums; pi by Machin. Plain.
The document's inverse tangents of 1 / n in fixed point; its pi. Plain.
Package consts: the inverse tangents' terms: a closure that writes its maker's box; series.Sum with it.
Package consts: inverse, pi.
Pi: between which numbers it lies; how narrow its enclosures are. Plain.
Package consts: the table, what it encloses: pi.
Right angles taken away: plain.
Dyadic numbers: how low their last bit lies, how high their first. Plain.
Package reduce.
Package reduce: Turns, Scale, Split.
Package ulpref09: pi; ulpref14: pi.
Package ulpref14.
When right angles are told apart: plain.
The reckoning again, so that the kernel can do it: the same functions by recursion on a number of rounds.
Package ulplaw14.
Package ulplaw13: the words.
Answers of sines and cosines against the document's. Plain.
Package ulplaw13: the answers that the document gives; SincoreEncloses.
Sine and cosine: the circle, the mirror, bounds. Plain.
Package ulplaw14: ReduceOdd.
Package ulplaw14: ReduceBack, ReduceNear.
Package ulplaw14: ReduceNear.
Package ulplaw14: ReduceAngles.
ulpref04.Copy, by hand: a copy of a number's words.
Package ulplaw14: ReduceQuarter.
Package ulplaw14: ReduceQuarter's word.
Package ulplaw13: circle, mirror, bounds: the laws' words.
The sine rises, the cosine falls with the amount: partial sum by partial sum. Plain.
Sines and cosines of all numbers of an interval: near the document's, and right. Plain.
Package ulplaw13: near; SincoreBoth.
Sines and cosines over a narrow interval: how narrow. Plain.
Sines and cosines of all numbers of a narrow interval: narrow. Plain.
Sines and cosines of all numbers of an interval, enclosed; the turned pair; what is asked of an answer. Plain.
Of half a turned pair: what becomes of it, cut to the bits that are asked; quotients. Plain.
Quotients of narrow intervals; how great the sines of what is not too near 0 are. Plain.
The angle of so many half turns. Plain.
Sine and cosine of so many half turns, turned: they meet the document's. Plain.
Tangents: what the program's quotient is, and that it meets the document's. Plain.
The document's sine and cosine of half turns keep off 0; quotients of 0. Plain.
What TrigpiBoth asks. Plain.
What TrigpiEncloses asks, behind the reading of a binary64 number. Plain.
What is left of a binary64 number behind half turns has room, and is not too near 0. Plain.
The turned pair: on the circle, mirrored, half a turn on. Plain.
What the program and the document leave of one number behind right angles: as many, and a shared rational. Plain.
Sine and cosine of what is left behind right angles. Plain.
Circle, mirror, half a turn: what ulplaw18 asks without the document. Plain.
The tangent on the other side of 0. Plain.
Package trigpi: the turned pairs.
-/
import Derived.Test.YtcgjbmbdkpapdaaGreatDoorMg2
import Derived.Test.YtcgjbmbdkpapdaaGreatDoorMg3
import Derived.Test.YtcgjbmbdkpapdaaGreatDoorMg1
namespace Go.Proofs.YtcgjbmbdkpapdaaGreatDoor
open Go.RowKit
section
variable {C:Base} {w:World} {A:Nat→Option Nat}
theorem repA_wf1{v:Value}{a:At}(h:Rep C A w v a):wf1 a:=by
  cases h with
  | words h=>obtain ⟨_,_,_,h1,h2,h3,_⟩:=h;exact ⟨h3,h2.2⟩
  | _=>exact trivial
theorem repA_wfL(f:Nat→Value):∀ (l:List At) (k:Nat),(∀ (i:Nat) a,l[i]?=some a→Rep C A w (f (k+i)) a)→wfL l
  | [],_,_=>trivial
  | a :: l,k,h=>⟨repA_wf1 (h 0 a rfl),repA_wfL f l (k+1) fun i x hx=>by have:=h (i+1) x hx;rwa [show k+(i+1)=k+1+i by omega] at this⟩
theorem repA_wfB{v:Value}{a:At}(h:Rep C A w v a):wfB a:=by
  cases h with
  | words h=>exact repA_wf1 (.words h)
  | ref vs _ _ _ h=>exact repA_wfL vs _ 0 fun i a hi=>by rw [Nat.zero_add];exact h i a hi
  | rows vs _ _ _ _ _ _ _ _ h=>exact repA_wfL vs _ 0 fun i a hi=>by rw [Nat.zero_add];exact h i a hi
  | _=>exact trivial
theorem repA_wfBs:∀ {vs:List Value} {l:List At},RepL C A w vs l→wfBs l
  | [],[],_=>trivial
  | _ :: _,_ :: _,⟨h,k⟩=>⟨repA_wfB h,repA_wfBs k⟩
theorem repA_wfBs':∀ {vs:List Value} {l:List At},vs.length=l.length→(∀ (i:Nat) v a,vs[i]?=some v→l[i]?=some a→Rep C A w v a)→wfBs l
  | [],[],_,_=>trivial
  | v :: _,a :: _,hl,h=>⟨repA_wfB (h 0 v a rfl rfl),repA_wfBs' (by simpa using hl) fun i v a hv ha=>h (i+1) v a hv ha⟩
theorem repA_wfS{v:Value}{s:Sv}(h:RepS C A w v s):wfS s:=by
  cases s with
  | agg l=>obtain ⟨vs,e,h⟩:=h;exact repA_wfBs h
  | one a =>
    have q:Rep C A w v a:=h
    clear h
    cases q with
    | fn hl k=>exact repA_wfBs' hl k
    | words k=>exact repA_wfB (.words k)
    | ref vs hg ha hc k=>exact repA_wfB (.ref vs hg ha hc k)
    | rows vs hl hn hm hg ha hX hb hc k=>exact repA_wfB (.rows vs hl hn hm hg ha hX hb hc k)
    | _=>exact trivial
theorem repA_wfSs:∀ {vs:List Value} {l:List Sv},RepSs C A w vs l→wfSs l
  | [],[],_=>trivial
  | _ :: _,_ :: _,⟨h,k⟩=>⟨repA_wfS h,repA_wfSs k⟩
end
theorem fg_toTv:∀ l:List Sv,fgT (toTv l)=toTv (fgSs l)
  | []=>rfl
  | [_]=>rfl
  | _ :: _ :: _=>rfl
theorem flat_fgA(a:At):flat0 (fgA a)=flat0 a:=by cases a<;>rfl
theorem allFlat_fg:∀ l:List At,allFlat (fgL l)=allFlat l
  | []=>rfl
  | a :: l=>by simp only [fgL,allFlat,flat_fgA,allFlat_fg l]
theorem effOk_pat {P : Program} {E : Env} (hE : EnvOk P E) (hm : P.follows .mixedOrders = true) {f : FuncId} {fn : Func} {c : Code} (hf : P.funcs[f]? = some fn) (hb : fn.body = some c) (hname : (fn.name == "runtime.NumGoroutine") = false) {sp : Spec} (k : Nat) (hk : k ≤ fn.ntmps)
    (h:∀ l args p t,wfBs l→wfSs args→sp (.agg l :: args)=(p,t)→(match p with | none=>True | some p=>p)→args.length≤k∧∃ inv fuel,execFE E inv fuel fn l args (fun x=>x=t∨fgT x=t)):EffOk P f sp:=by
  refine ⟨⟨fn,c,hf,hname,hb⟩,fun C w us l vs ss new rs hn hX0 hX hT hL hus hcell hvs hp hsp hfn hlen=>?_⟩
  obtain ⟨hl,inv,fuel,h⟩:=h l ss (sp (.agg l :: ss)).1 (sp (.agg l :: ss)).2 (repA_wfBs hus) (repA_wfSs hvs) rfl hp
  refine (execFE_ok hE hm hf h hn hX0 hX hT hL hus hcell hvs (by rw [hvs.length];omega)).mono ?_
  rintro e w' ⟨v,new',rs',rfl,hq,h1,h2⟩
  rw [hsp] at hq
  rcases hq with hq | hq
  · cases hq
    exact ⟨v,rfl,h1,h2 hfn⟩
  · have hq:Tv.tup (Sv.agg (fgL new') :: fgSs rs') = .tup (.agg new :: rs):=hq
    cases hq
    refine ⟨v,rfl,fg_toTv rs' ▸ rep_fgT h1,?_⟩
    obtain ⟨e1,e2,⟨us',e3,e4⟩,e5⟩:=h2 (by rw [←allFlat_fg];exact hfn)
    exact ⟨e1,e2,⟨us',rep_fgL e3,e4⟩,e5⟩
def parG(b:Nat)(r:Nat→Rat)(n:Nat):Rat:=sumTo (fun k=>if k % 2=b then r k else 0) n
def sgnS(turned:Bool)(r:Nat→Rat)(n:Nat):Rat:=sumTo (fun k=>(if turned=true then alt k else 1)*r k) n
theorem sgnS_par(r:Nat→Rat):∀ n,sgnS true r n=parG 0 r n-parG 1 r n
  | 0=>by show (0:Rat)=0-0;grind
  | n+1=>by
    have h:=sgnS_par r n
    have e1:sgnS true r (n+1)=sgnS true r n+alt n*r n:=rfl
    have e2:∀ b,parG b r (n+1)=parG b r n+(if n % 2=b then r n else 0):=fun _=>rfl
    rw [e1,e2,e2,h]
    unfold alt
    rcases (show n % 2=0∨n % 2=1 by omega) with k | k<;>rw [k]<;>simp<;>grind
theorem sumS_par(r:Nat→Rat):∀ n,sgnS false r n=parG 0 r n+parG 1 r n
  | 0=>by show (0:Rat)=0+0;grind
  | n+1=>by
    have h:=sumS_par r n
    have e1:sgnS false r (n+1)=sgnS false r n+1*r n:=rfl
    have e2:∀ b,parG b r (n+1)=parG b r n+(if n % 2=b then r n else 0):=fun _=>rfl
    rw [e1,e2,e2,h]
    rcases (show n % 2=0∨n % 2=1 by omega) with k | k<;>rw [k]<;>simp<;>grind
theorem parG_tail{r:Nat→Rat}(h0:∀ k,0≤r k)(h:∀ k,12*r (k+1)≤r k)(b K:Nat):∀ d,parG b r K≤parG b r (K+d)∧11*(parG b r (K+d)-parG b r K)≤12*(r K-r (K+d))
  | 0=>by constructor<;>grind
  | d+1=>by
    have ih:=parG_tail h0 h b K d
    have t0:=h0 (K+d)
    have t1:=h (K+d)
    have e:parG b r (K+(d+1))=parG b r (K+d)+(if (K+d) % 2=b then r (K+d) else 0):=rfl
    rw [e,←Nat.add_assoc]
    split<;>constructor<;>grind
theorem altG_enc{r:Nat→Rat}(h0:∀ k,0≤r k)(h:∀ k,12*r (k+1)≤r k){K:Nat}{a b c d q:Rat}(h1:a≤parG 0 r K)(h2:parG 0 r K≤b)(h3:c≤parG 1 r K)(h4:parG 1 r K≤d)(h5:12*r K≤11*q):Enc (sgnS true r) (a-(d+q)) (b+q-c):=fun e he=>⟨K,fun n hn=>by
  obtain ⟨m,rfl⟩:∃ m,n=K+m:=⟨n-K,by omega⟩
  have p:=parG_tail h0 h 0 K m
  have q:=parG_tail h0 h 1 K m
  have t:=h0 (K+m)
  rw [sgnS_par]
  constructor<;>grind⟩
theorem sumG_enc{r:Nat→Rat}(h0:∀ k,0≤r k)(h:∀ k,12*r (k+1)≤r k){K:Nat}{a b c d q:Rat}(h1:a≤parG 0 r K)(h2:parG 0 r K≤b)(h3:c≤parG 1 r K)(h4:parG 1 r K≤d)(h5:12*r K≤11*q):Enc (sgnS false r) (a+c) (b+q+(d+q)):=fun e he=>⟨K,fun n hn=>by
  obtain ⟨m,rfl⟩:∃ m,n=K+m:=⟨n-K,by omega⟩
  have p:=parG_tail h0 h 0 K m
  have q:=parG_tail h0 h 1 K m
  have t:=h0 (K+m)
  rw [sumS_par]
  constructor<;>grind⟩
def SmT(T:Nat→Fx)(b:Nat):Nat→Fx
  | 0=>⟨0,0⟩
  | k+1=>if k % 2=b then addF (SmT T b k) (T k) else SmT T b k
theorem smT_in{w:Int}{T:Nat→Fx}{r:Nat→Rat}(h:∀ k,InF w (T k) (r k))(b:Nat):∀ k,InF w (SmT T b k) (parG b r k)
  | 0=>InF.zero w
  | k+1=>by
    have e:parG b r (k+1)=parG b r k+(if k % 2=b then r k else 0):=rfl
    rw [e];unfold SmT
    split
    · exact (smT_in h b k).add (h k)
    · rw [Rat.add_zero];exact smT_in h b k
def EncF(w:Int)(z:Fx)(s:Nat→Rat):Prop:=Enc s ((z.a:Rat)*p2 (-w)) (((z.a+z.e:Int):Rat)*p2 (-w))
theorem scale_le{w:Int}{a:Int}{x:Rat}(h:(a:Rat)≤x*p2 w):(a:Rat)*p2 (-w)≤x:=le_div_p2 h
theorem altT_encF{w:Int}{T:Nat→Fx}{r:Nat→Rat}(hT:∀ k,InF w (T k) (r k))(h0:∀ k,0≤r k)(h:∀ k,12*r (k+1)≤r k){K:Nat}{c:Int}(hK:12*(r K*p2 w)≤11*(c:Rat)) :
    EncF w (subF (widerF (SmT T 0 K) c) (widerF (SmT T 1 K) c)) (sgnS true r)∧EncF w (addF (widerF (SmT T 0 K) c) (widerF (SmT T 1 K) c)) (sgnS false r):=by
  obtain ⟨a0,e0,l0,u0⟩:=smT_in hT 0 K
  obtain ⟨a1,e1,l1,u1⟩:=smT_in hT 1 K
  have q:12*r K≤11*((c:Rat)*p2 (-w)):=by
    have p:=rmR hK (rlL (p2_pos (-w)))
    have i:=p2_neg w
    have e:12*(r K*p2 w)*p2 (-w)=12*r K:=by rw [show 12*(r K*p2 w)*p2 (-w)=12*(r K*(p2 w*p2 (-w))) by grind,Rat.mul_comm (p2 w),i,Rat.mul_one]
    rw [e] at p
    grind
  have x:=altG_enc h0 h (K:=K) (scale_le l0) (div_p2_le u0) (scale_le l1) (div_p2_le u1) q
  have y:=sumG_enc h0 h (K:=K) (scale_le l0) (div_p2_le u0) (scale_le l1) (div_p2_le u1) q
  unfold EncF
  constructor
  · refine x.wide ?_ ?_
    · show ((((SmT T 0 K).a-((SmT T 1 K).a+((SmT T 1 K).e+c)):Int)):Rat)*p2 (-w)≤_
      rw [Rat.intCast_sub,rcA,rcA,rcA];grind
    · show _≤((((SmT T 0 K).a-((SmT T 1 K).a+((SmT T 1 K).e+c)))+((SmT T 0 K).e+c+((SmT T 1 K).e+c)):Int):Rat)*p2 (-w)
      rw [show (SmT T 0 K).a-((SmT T 1 K).a+((SmT T 1 K).e+c))+((SmT T 0 K).e+c+((SmT T 1 K).e+c))=(SmT T 0 K).a+(SmT T 0 K).e+c-(SmT T 1 K).a by omega,Rat.intCast_sub,rcA,rcA]
      rw [rcA];grind
  · refine y.wide ?_ ?_
    · show (((SmT T 0 K).a+(SmT T 1 K).a:Int):Rat)*p2 (-w)≤_
      rw [rcA];grind
    · show _≤(((SmT T 0 K).a+(SmT T 1 K).a+((SmT T 0 K).e+c+((SmT T 1 K).e+c)):Int):Rat)*p2 (-w)
      simp only [rcA];grind
def apow(n:Int):Nat→Rat
  | 0=>(n:Rat)⁻¹
  | k+1=>apow n k*((n*n:Int):Rat)⁻¹
def atT(n:Int)(k:Nat):Rat:=apow n k*((2*(k:Int)+1:Int):Rat)⁻¹
theorem apow_nonneg{n:Int}(hn:0<n):∀ k,0≤apow n k
  | 0=>rlL (Rat.inv_pos.2 (cast_lt (a:=0).2 hn))
  | k+1=>rmN (apow_nonneg hn k) (rlL (Rat.inv_pos.2 (cast_lt (a:=0).2 (Int.mul_pos hn hn))))
theorem atT_nonneg{n:Int}(hn:0<n)(k:Nat):0≤atT n k:=rmN (apow_nonneg hn k) (rlL (Rat.inv_pos.2 (cast_lt (a:=0).2 (by omega))))
theorem atT_mul(n:Int)(k:Nat):atT n k*((2*(k:Int)+1:Int):Rat)=apow n k:=by
  have h:((2*(k:Int)+1:Int):Rat)≠0:=by
    have:=cast_lt (a:=0) (b:=2*(k:Int)+1).2 (by omega)
    grind
  rw [atT,Rat.mul_assoc,Rat.inv_mul_cancel _ h,Rat.mul_one]
theorem sq_ge{n:Int}(hn:5≤n):25≤n*n:=by
  have:=Int.mul_le_mul hn hn (by omega) (by omega)
  omega
theorem atT_fall{n:Int}(hn:5≤n)(k:Nat):12*atT n (k+1)≤atT n k:=by
  have a:=atT_mul n k
  have b:=atT_mul n (k+1)
  have hN:(25:Rat)≤((n*n:Int):Rat):=cast_le (a:=25).2 (sq_ge hn)
  have e:apow n (k+1)*((n*n:Int):Rat)=apow n k:=by
    rw [apow,Rat.mul_assoc,Rat.inv_mul_cancel _ (by grind),Rat.mul_one]
  rw [←b] at e
  rw [←e] at a
  have m0:=atT_nonneg (show 0<n by omega) (k+1)
  have c:(1:Rat)≤((2*(k:Int)+1:Int):Rat):=cast_le (a:=1).2 (by omega)
  have d:((2*((k+1:Nat):Int)+1:Int):Rat)=((2*(k:Int)+1:Int):Rat)+2:=by
    rw [show (2*((k+1:Nat):Int)+1:Int)=2*(k:Int)+1+2 by omega,rcA];rfl
  rw [d] at a
  generalize ((2*(k:Int)+1:Int):Rat)=u at *
  have x1:=rmN m0 (show 0≤u by grind)
  have x2:=rmL hN (show 0≤atT n (k+1)*(u+2) by have:=rmN m0 (show 0≤u+2 by grind);exact this)
  refine Rat.not_lt.1 fun g=>?_
  have x3:=Rat.mul_lt_mul_of_pos_right g (show 0<u by grind)
  grind
def invP(n w:Int):Nat→Fx
  | 0=>shortF ⟨2^w.toNat,0⟩ n
  | k+1=>shortF (invP n w k) (n*n)
def invT(n w:Int):Nat→Fx
  | 0=>invP n w 0
  | k+1=>shortF (invP n w (k+1)) (2*((k+1:Nat):Int)+1)
structure InvOk (n w:Int):Prop where
  n0:5≤n
  n1:n≤10000
  w0:32≤w
  w1:w≤65536
section
variable {n w:Int} (h:InvOk n w)
include h
theorem invP_in:∀ k,InF w (invP n w k) (apow n k)
  | 0=>by
    have:=h.n0
    have k:=(InF.one (w:=w) (by have:=h.w0;omega)).short (d:=n) (by omega)
    rwa [Rat.one_mul] at k
  | k+1=>(invP_in k).short (d:=n*n) (by have:=sq_ge h.n0;omega)
theorem invT_in:∀ k,InF w (invT n w k) (atT n k)
  | 0=>by
    have e:atT n 0=apow n 0:=by have:=atT_mul n 0;rw [←this];simp
    rw [e];exact invP_in h 0
  | k+1=>(invP_in h (k+1)).short (by omega)
theorem invP_e:∀ k,(invP n w k).e=2
  | 0=>by show 0/n+2=2;simp
  | k+1=>by
    show (invP n w k).e/(n*n)+2=2
    rw [invP_e k,Int.ediv_eq_zero_of_lt (by omega) (by have:=sq_ge h.n0;omega)];omega
theorem invT_e:∀ k,(invT n w k).e=2
  | 0=>invP_e h 0
  | k+1=>by
    show (invP n w (k+1)).e/_+2=2
    rw [invP_e h,Int.ediv_eq_zero_of_lt (by omega) (by omega)];omega
theorem invP_small:∀ k,(invP n w k).a*2^k≤2^w.toNat
  | 0=>by
    show 2^w.toNat/n*2^0≤2^w.toNat
    have:=Int.ediv_le_self n (show (0:Int)≤2^w.toNat by have:=two_pow_pos w.toNat;omega)
    omega
  | k+1=>by
    have ih:=invP_small k
    have a0:=(invP_in h k).a0
    have q:(invP n w k).a/(n*n)≤(invP n w k).a/2:=div_anti a0 (by omega) (by have:=sq_ge h.n0;omega)
    show (invP n w k).a/(n*n)*2^(k+1)≤2^w.toNat
    have p:=two_pow_pos k
    have m:=imR (show 2*((invP n w k).a/(n*n))≤(invP n w k).a by omega) (show (0:Int)≤2^k by omega)
    rw [Int.pow_succ]
    have e:(invP n w k).a/(n*n)*(2^k*2)=2*((invP n w k).a/(n*n))*2^k:=by rw [Int.mul_comm (2^k:Int) 2,←Int.mul_assoc,Int.mul_comm ((invP n w k).a/(n*n)) 2]
    rw [e];omega
theorem invT_le(k:Nat):(invT n w k).a≤(invP n w k).a:=by
  cases k with
  | zero=>exact Int.le_refl _
  | succ k=>exact Int.ediv_le_self _ (invP_in h (k+1)).a0
theorem invT_end:(invT n w (w.toNat+1)).a=0:=by
  have a:=invP_small h (w.toNat+1)
  have b:=invT_le h (w.toNat+1)
  have c:=(invT_in h (w.toNat+1)).a0
  have p:=two_pow_pos w.toNat
  have z:(invP n w (w.toNat+1)).a<1:=by
    refine Int.not_le.1 fun g=>?_
    have m:=imR g (show (0:Int)≤2^(w.toNat+1) by have:=two_pow_pos (w.toNat+1);omega)
    rw [Int.one_mul] at m
    have e:(2:Int)^(w.toNat+1)=2*2^w.toNat:=by rw [Int.pow_succ];omega
    omega
  omega
def invK(n w:Int):Nat:=findK (fun k=>decide ((invT n w k).a=0)) 1048576 1
theorem invK_spec:1≤invK n w∧(invK n w:Int)≤w+1∧(invT n w (invK n w)).a=0∧∀ k,1≤k→k<invK n w→(invT n w k).a≠0:=by
  have w0:=h.w0
  have w1:=h.w1
  obtain ⟨a,b,c,d⟩:=findK_spec (P:=fun k=>decide ((invT n w k).a=0)) 1048576 1 (w.toNat+1) (by omega) (by omega) (by simpa using invT_end h)
  exact ⟨a,by unfold invK;omega,of_decide_eq_true c,fun k x y=>of_decide_eq_false (d k x y)⟩
end
def invR(n w:Int)(b:Nat):Fx:=widerF (SmT (invT n w) b (invK n w)) ((invT n w (invK n w)).e+4)
def invS(n w:Int)(turned:Bool):Fx:=if turned=true then subF (invR n w 0) (invR n w 1) else addF (invR n w 0) (invR n w 1)
theorem invS_enc{n w:Int}(h:InvOk n w)(turned:Bool):EncF w (invS n w turned) (sgnS turned (atT n)):=by
  obtain ⟨k1,k2,k3,k4⟩:=invK_spec h
  have u:=(invT_in h (invK n w)).2.2.2
  rw [k3,invT_e h] at u
  have e:=altT_encF (w:=w) (T:=invT n w) (r:=atT n) (invT_in h) (atT_nonneg (by have:=h.n0;omega)) (atT_fall h.n0) (K:=invK n w) (c:=6) (by
    have:((0+2:Int):Rat)=2:=rfl
    rw [this] at u
    have:((6:Int):Rat)=6:=rfl
    rw [this];grind)
  unfold invS invR
  rw [invT_e h]
  cases turned with
  | true=>rw [if_pos rfl];exact e.1
  | false=>rw [if_neg (by simp)];exact e.2
section
variable {n w:Int} (h:InvOk n w)
include h
theorem invP_half(k:Nat):25*(invP n w (k+1)).a≤(invP n w k).a:=by
  have a0:=(invP_in h k).a0
  have q:(invP n w k).a/(n*n)≤(invP n w k).a/25:=div_anti a0 (by omega) (sq_ge h.n0)
  show 25*((invP n w k).a/(n*n))≤(invP n w k).a
  omega
theorem smI_a(b:Nat):∀ k,0≤(SmT (invT n w) b k).a∧(SmT (invT n w) b k).a+2*(invP n w k).a≤2*(invP n w 0).a
  | 0=>⟨Int.le_refl _,by show 0+2*(invP n w 0).a≤_;omega⟩
  | k+1=>by
    obtain ⟨i0,i1⟩:=smI_a b k
    have p:=invP_half h k
    have p0:=(invP_in h (k+1)).a0
    have t:=invT_le h k
    have t0:=(invT_in h k).a0
    unfold SmT
    split
    · exact ⟨by show 0≤_+_;omega,by show _+(invT n w k).a+_≤_;omega⟩
    · exact ⟨i0,by omega⟩
theorem smI_e(b:Nat):∀ k,0≤(SmT (invT n w) b k).e∧(SmT (invT n w) b k).e≤2*(k:Int)
  | 0=>⟨Int.le_refl _,by show (0:Int)≤_;omega⟩
  | k+1=>by
    obtain ⟨i0,i1⟩:=smI_e b k
    have t:=invT_e h k
    unfold SmT
    split
    · exact ⟨by show 0≤_+_;omega,by show _+(invT n w k).e≤_;omega⟩
    · exact ⟨i0,by omega⟩
theorem smI_even:∀ k,(invP n w 0).a≤(SmT (invT n w) 0 (k+1)).a
  | 0=>by
    show _≤(addF ⟨0,0⟩ (invT n w 0)).a
    show (invP n w 0).a≤0+(invP n w 0).a
    omega
  | k+1=>by
    have i:=smI_even k
    have t0:=(invT_in h (k+1)).a0
    rw [SmT]
    split
    · show _≤_+_;omega
    · exact i
theorem smI_odd:∀ k,(SmT (invT n w) 1 (k+1)).a+2*(invP n w (k+1)).a≤2*(invP n w 1).a
  | 0=>by
    show (0:Int)+2*(invP n w 1).a≤2*(invP n w 1).a
    omega
  | k+1=>by
    have i:=smI_odd k
    have p:=invP_half h (k+1)
    have p0:=(invP_in h (k+1+1)).a0
    have t:=invT_le h (k+1)
    rw [SmT]
    split
    · show _+(invT n w (k+1)).a+_≤_;omega
    · omega
theorem invR_bd:(invP n w 0).a≤(invR n w 0).a∧(invR n w 0).a≤2*(invP n w 0).a∧0≤(invR n w 1).a∧25*(invR n w 1).a≤2*(invP n w 0).a∧6≤(invR n w 0).e∧(invR n w 0).e≤2*w+8∧6≤(invR n w 1).e∧(invR n w 1).e≤2*w+8:=by
  obtain ⟨k1,k2,k3,k4⟩:=invK_spec h
  obtain ⟨j,hj⟩:∃ j,invK n w=j+1:=⟨invK n w-1,by omega⟩
  have a:=smI_a h 0 (invK n w)
  have b:=smI_a h 1 (invK n w)
  have c:=smI_e h 0 (invK n w)
  have d:=smI_e h 1 (invK n w)
  have e:=smI_even h j
  have f:=smI_odd h j
  have g:=(invP_in h (j+1)).a0
  have i:=invP_half h 0
  have p:=(invP_in h (invK n w)).a0
  have te:=invT_e h (invK n w)
  rw [←hj] at e f g
  unfold invR widerF
  rw [te]
  show (invP n w 0).a≤(SmT (invT n w) 0 (invK n w)).a∧(SmT (invT n w) 0 (invK n w)).a≤_∧0≤(SmT (invT n w) 1 (invK n w)).a∧25*(SmT (invT n w) 1 (invK n w)).a≤_∧6≤(SmT (invT n w) 0 (invK n w)).e+(2+4)∧(SmT (invT n w) 0 (invK n w)).e+(2+4)≤_∧6≤(SmT (invT n w) 1 (invK n w)).e+(2+4)∧(SmT (invT n w) 1 (invK n w)).e+(2+4)≤_
  refine ⟨e,by omega,b.1,?_,by omega,by omega,by omega,by omega⟩
  have i':25*(invP n w 1).a≤(invP n w 0).a:=i
  omega
end
theorem pow_big:∀ k:Nat,((k:Int)+1)*4294967296≤2^(k+32)
  | 0=>by decide
  | k+1=>by
    have i:=pow_big k
    have e:(2:Int)^(k+1+32)=2*2^(k+32):=by rw [show k+1+32=k+32+1 by omega,Int.pow_succ];omega
    rw [e]
    omega
theorem InvOk.big{n w:Int}(h:InvOk n w):429496*(w-31)≤(invP n w 0).a+1:=by
  have w0:=h.w0
  have n0:=h.n0
  have n1:=h.n1
  have p:=pow_big (w.toNat-32)
  rw [show w.toNat-32+32=w.toNat by omega] at p
  show 429496*(w-31)≤2^w.toNat/n+1
  have q:2^w.toNat/10000≤2^w.toNat/n:=div_anti (by have:=two_pow_pos w.toNat;omega) (by omega) n1
  omega
theorem Enc.scale{s:Nat→Rat}{a b c:Rat}(h:Enc s a b)(hc:0≤c):Enc (fun n=>c*s n) (c*a) (c*b):=by
  refine Enc.mul (Enc.const c) h ?_
  have l:=rmL h.self hc
  rintro x y (rfl | rfl) (rfl | rfl)<;>exact ⟨by grind,by grind⟩
def timesF(z:Fx)(n:Int):Fx:=⟨z.a*n,z.e*n⟩
theorem EncF.times{w:Int}{z:Fx}{s:Nat→Rat}(h:EncF w z s){n:Int}(hn:0≤n):EncF w (timesF z n) (fun m=>(n:Rat)*s m):=by
  have k:=h.scale (c:=(n:Rat)) (by rw [show (0:Rat)=((0:Int):Rat) from rfl];exact cast_le.2 hn)
  unfold EncF timesF
  refine k.wide ?_ ?_
  · show ((z.a*n:Int):Rat)*p2 (-w)≤_
    rw [rcM];grind
  · show _≤((z.a*n+z.e*n:Int):Rat)*p2 (-w)
    rw [←Int.add_mul,rcM];grind
theorem EncF.sub{w:Int}{x y:Fx}{s t:Nat→Rat}(h:EncF w x s)(k:EncF w y t):EncF w (subF x y) (fun m=>s m + -t m):=by
  have e:=h.add k.neg
  unfold EncF subF
  refine e.wide ?_ ?_
  · show ((x.a-(y.a+y.e):Int):Rat)*p2 (-w)≤_
    rw [Rat.intCast_sub];grind
  · show _≤((x.a-(y.a+y.e)+(x.e+y.e):Int):Rat)*p2 (-w)
    rw [show x.a-(y.a+y.e)+(x.e+y.e)=x.a+x.e-y.a by omega,Rat.intCast_sub];grind
def piF(w:Int):Fx:=subF (timesF (invS 5 w true) 16) (timesF (invS 239 w true) 4)
def piS(m:Nat):Rat:=16*sgnS true (atT 5) m + -(4*sgnS true (atT 239) m)
theorem piF_enc{w:Int}(w0:32≤w)(w1:w≤65536):EncF w (piF w) piS :=
  ((invS_enc ⟨by omega,by omega,w0,w1⟩ true).times (n:=16) (by omega)).sub ((invS_enc ⟨by omega,by omega,w0,w1⟩ true).times (n:=4) (by omega))
def refP(n w:Int):Nat→Fx
  | 0=>shortF ⟨2^w.toNat,0⟩ n
  | k+1=>shortF (shortF (refP n w k) n) n
def refT(n w:Int):Nat→Fx
  | 0=>refP n w 0
  | k+1=>shortF (refP n w (k+1)) (2*((k+1:Nat):Int)+1)
section
variable {n w:Int} (h:InvOk n w)
include h
theorem refP_in:∀ k,InF w (refP n w k) (apow n k)
  | 0=>by
    have:=h.n0
    have k:=(InF.one (w:=w) (by have:=h.w0;omega)).short (d:=n) (by omega)
    rwa [Rat.one_mul] at k
  | k+1=>by
    have n0:=h.n0
    have i:=((refP_in k).short (d:=n) (by omega)).short (d:=n) (by omega)
    have e:apow n (k+1)=apow n k*(n:Rat)⁻¹*(n:Rat)⁻¹:=by
      rw [apow,rcM,Rat.inv_mul_rev,Rat.mul_assoc]
    rw [e];exact i
theorem refT_in:∀ k,InF w (refT n w k) (atT n k)
  | 0=>by
    have e:atT n 0=apow n 0:=by have:=atT_mul n 0;rw [←this];simp
    rw [e];exact refP_in h 0
  | k+1=>(refP_in h (k+1)).short (by omega)
theorem refP_e:∀ k,(refP n w k).e=2
  | 0=>by show 0/n+2=2;simp
  | k+1=>by
    have n0:=h.n0
    show ((refP n w k).e/n+2)/n+2=2
    have z:(2:Int)/n=0:=Int.ediv_eq_zero_of_lt (by omega) (by omega)
    rw [refP_e k,z,Int.zero_add,z];omega
theorem refT_e:∀ k,(refT n w k).e=2
  | 0=>refP_e h 0
  | k+1=>by
    show (refP n w (k+1)).e/_+2=2
    rw [refP_e h,Int.ediv_eq_zero_of_lt (by omega) (by omega)];omega
theorem refP_half(k:Nat):25*(refP n w (k+1)).a≤(refP n w k).a:=by
  have a0:=(refP_in h k).a0
  have n0:=h.n0
  have q0:=Int.ediv_nonneg a0 (show (0:Int)≤n by omega)
  have q1:(refP n w k).a/n≤(refP n w k).a/5:=div_anti a0 (by omega) n0
  have q2:(refP n w k).a/n/n≤(refP n w k).a/n/5:=div_anti q0 (by omega) n0
  show 25*((refP n w k).a/n/n)≤(refP n w k).a
  omega
theorem refT_le(k:Nat):(refT n w k).a≤(refP n w k).a:=by
  cases k with
  | zero=>exact Int.le_refl _
  | succ k=>exact Int.ediv_le_self _ (refP_in h (k+1)).a0
theorem refP_small:∀ k,(refP n w k).a*2^k≤2^w.toNat
  | 0=>by
    show 2^w.toNat/n*2^0≤2^w.toNat
    have:=Int.ediv_le_self n (show (0:Int)≤2^w.toNat by have:=two_pow_pos w.toNat;omega)
    omega
  | k+1=>by
    have ih:=refP_small k
    have a0:=(refP_in h (k+1)).a0
    have q:=refP_half h k
    have m:=imR (show 2*(refP n w (k+1)).a≤(refP n w k).a by omega) (show (0:Int)≤2^k by have:=two_pow_pos k;omega)
    rw [Int.pow_succ]
    have e:(refP n w (k+1)).a*(2^k*2)=2*(refP n w (k+1)).a*2^k:=by rw [Int.mul_comm (2^k:Int) 2,←Int.mul_assoc,Int.mul_comm (refP n w (k+1)).a 2]
    rw [e];omega
theorem refP_end:(refP n w (w.toNat+1)).a=0:=by
  have a:=refP_small h (w.toNat+1)
  have c:=(refP_in h (w.toNat+1)).a0
  have p:=two_pow_pos w.toNat
  have z:(refP n w (w.toNat+1)).a<1:=by
    refine Int.not_le.1 fun g=>?_
    have m:=imR g (show (0:Int)≤2^(w.toNat+1) by have:=two_pow_pos (w.toNat+1);omega)
    rw [Int.one_mul] at m
    have e:(2:Int)^(w.toNat+1)=2*2^w.toNat:=by rw [Int.pow_succ];omega
    omega
  omega
def refK(n w:Int):Nat:=findK (fun k=>decide ((refP n w k).a=0)) 1048576 0
theorem refK_spec:(refK n w:Int)≤w+1∧(refP n w (refK n w)).a=0∧∀ k,k<refK n w→(refP n w k).a≠0:=by
  have w0:=h.w0
  have w1:=h.w1
  obtain ⟨a,b,c,d⟩:=findK_spec (P:=fun k=>decide ((refP n w k).a=0)) 1048576 0 (w.toNat+1) (by omega) (by omega) (by simpa using refP_end h)
  exact ⟨by unfold refK;omega,of_decide_eq_true c,fun k y=>of_decide_eq_false (d k (Nat.zero_le _) y)⟩
theorem smR_a(b:Nat):∀ k,0≤(SmT (refT n w) b k).a∧(SmT (refT n w) b k).a+2*(refP n w k).a≤2*(refP n w 0).a
  | 0=>⟨Int.le_refl _,by show 0+2*(refP n w 0).a≤_;omega⟩
  | k+1=>by
    obtain ⟨i0,i1⟩:=smR_a b k
    have p:=refP_half h k
    have p0:=(refP_in h (k+1)).a0
    have t:=refT_le h k
    have t0:=(refT_in h k).a0
    unfold SmT
    split
    · exact ⟨by show 0≤_+_;omega,by show _+(refT n w k).a+_≤_;omega⟩
    · exact ⟨i0,by omega⟩
theorem smR_e(b:Nat):∀ k,0≤(SmT (refT n w) b k).e∧(SmT (refT n w) b k).e≤2*(k:Int)
  | 0=>⟨Int.le_refl _,by show (0:Int)≤_;omega⟩
  | k+1=>by
    obtain ⟨i0,i1⟩:=smR_e b k
    have t:=refT_e h k
    unfold SmT
    split
    · exact ⟨by show 0≤_+_;omega,by show _+(refT n w k).e≤_;omega⟩
    · exact ⟨i0,by omega⟩
theorem smR_even:∀ k,(refP n w 0).a≤(SmT (refT n w) 0 (k+1)).a
  | 0=>by
    show (refP n w 0).a≤0+(refP n w 0).a
    omega
  | k+1=>by
    have i:=smR_even k
    have t0:=(refT_in h (k+1)).a0
    rw [SmT]
    split
    · show _≤_+_;omega
    · exact i
theorem smR_odd:∀ k,(SmT (refT n w) 1 (k+1)).a+2*(refP n w (k+1)).a≤2*(refP n w 1).a
  | 0=>by
    show (0:Int)+2*(refP n w 1).a≤2*(refP n w 1).a
    omega
  | k+1=>by
    have i:=smR_odd k
    have p:=refP_half h (k+1)
    have p0:=(refP_in h (k+1+1)).a0
    have t:=refT_le h (k+1)
    rw [SmT]
    split
    · show _+(refT n w (k+1)).a+_≤_;omega
    · omega
end
def refS(n w:Int):Fx:=subF (widerF (SmT (refT n w) 0 (refK n w+1)) 4) (widerF (SmT (refT n w) 1 (refK n w+1)) 4)
theorem refS_enc{n w:Int}(h:InvOk n w):EncF w (refS n w) (sgnS true (atT n)):=by
  obtain ⟨k2,k3,k4⟩:=refK_spec h
  have u:=(refP_in h (refK n w)).2.2.2
  rw [k3,refP_e h] at u
  refine (altT_encF (w:=w) (T:=refT n w) (r:=atT n) (refT_in h) (atT_nonneg (by have:=h.n0;omega)) (atT_fall h.n0) (K:=refK n w+1) (c:=4) ?_).1
  have f:=atT_fall h.n0 (refK n w)
  have m:=atT_mul n (refK n w)
  have t0:=atT_nonneg (show 0<n by have:=h.n0;omega) (refK n w)
  have c:(1:Rat)≤((2*(refK n w:Int)+1:Int):Rat):=cast_le (a:=1).2 (by omega)
  have m1:=rmL c t0
  rw [m] at m1
  have m2:=rmR (show 12*atT n (refK n w+1)≤apow n (refK n w) by grind) (rlL (p2_pos w))
  have e2:((0+2:Int):Rat)=2:=rfl
  have e4:((4:Int):Rat)=4:=rfl
  rw [e2] at u
  rw [e4]
  grind
def piR(w:Int):Fx:=subF (timesF (refS 5 w) 16) (timesF (refS 239 w) 4)
theorem piR_enc{w:Int}(w0:32≤w)(w1:w≤65536):EncF w (piR w) piS :=
  ((refS_enc ⟨by omega,by omega,w0,w1⟩).times (n:=16) (by omega)).sub ((refS_enc ⟨by omega,by omega,w0,w1⟩).times (n:=4) (by omega))
def wInv(gP:Fx→Int→Fx)(gT:Fx→Int→Int→Fx)(pr:Fx→Int→Int→Prop):Spec:=fun l=>match l with
  | [.agg [.words false ps,.int .u64 pe],.agg [.words false _,.int .u64 _],.one (.int .i64 k),.one (.ptr 0 0),.one (.ref [.int .u64 sq])] =>
    (some (ps=ws (val ps)∧pr ⟨val ps,pe⟩ k sq),.tup [.agg (fwL false (fw (gP ⟨val ps,pe⟩ sq))),.agg (fwL false (fw (gT ⟨val ps,pe⟩ k sq)))])
  | _=>noSpec
def sI1:List (FuncId×Spec):=[(189,seShort)]
theorem sI1_ok:SpecsOk Tryz.prog sI1:=⟨seShort_ok,trivial⟩
theorem cInv_vc(ps xs:List Int)(pe e k sq:Int)(Q:Tv→Prop):execFE ⟨tys3,sI1⟩ (fun _=>none) 0 Tryz.f202 [.words false ps,.int .u64 pe] [.agg [.words false xs,.int .u64 e],.one (.int .i64 k),.one (.ptr 0 0),.one (.ref [.int .u64 sq])] Q=(((0:Int)≤pe∧pe≤1099511627776∧(0:Int)<sq∧sq<18446744073709551616)∧inR ((2:Int)*k)∧inR ((2:Int)*k+1)∧((0:Int)≤(fw (shortF (Fw.f (Fw.mk ps pe)) sq)).e∧(fw (shortF (Fw.f (Fw.mk ps pe)) sq)).e≤1099511627776∧(0:Int)<IntKind.wrap IntKind.u64 ((2:Int)*k+1)∧IntKind.wrap IntKind.u64 ((2:Int)*k+1)<18446744073709551616)∧Q (Tv.tup [Sv.agg (fwL false (fw (shortF (Fw.f (Fw.mk ps pe)) sq))),Sv.agg (fwL false (fw (shortF (Fw.f (fw (shortF (Fw.f (Fw.mk ps pe)) sq))) (IntKind.wrap IntKind.u64 ((2:Int)*k+1)))))])):=by kernel_rfl
def gPI(x:Fx)(sq:Int):Fx:=shortF x sq
def gTI(x:Fx)(k sq:Int):Fx:=shortF (shortF x sq) (2*k+1)
def prI(x:Fx)(k sq:Int):Prop:=x.Ok∧x.e≤549755813888∧0<sq∧sq<18446744073709551616∧1≤k∧k≤1048577
theorem cInv_ok:EffOk Tryz.prog 202 (wInv gPI gTI prI) :=
  effOk_pat (envOk tys3_ok sI1_ok) mixed Tryz.func202 rfl (by decide) 4 (by decide) fun l args p t _ _ e hp=>by
    unfold wInv at e
    split at e
    · rename_i ps pe xs e0 k sq heq
      cases heq
      cases e
      obtain ⟨hx,ox,xe,s0,s1,k0,k1⟩:ps=ws (val ps)∧prI ⟨val ps,pe⟩ k sq:=hp
      have z:=shortF_e0 (x:=⟨val ps,pe⟩) (d:=sq) ox.1 ox.2.2.1 s0
      refine ⟨Nat.le_refl 4,fun _=>none,0,(cInv_vc ps xs pe e0 k sq _).mpr ?_⟩
      have e1:IntKind.u64.wrap (2*k+1)=2*k+1:=wrap_w ⟨by omega,by omega⟩
      have e2:(fw (shortF ⟨val ps,pe⟩ sq)).f=shortF ⟨val ps,pe⟩ sq:=fw_f z.1
      have e3:(Fw.mk ps pe).f=⟨val ps,pe⟩:=rfl
      have e4:∀ z:Fx,(fw z).e=z.e:=fun _=>rfl
      have b1:(0:Int)≤pe:=ox.2.2.1
      have b2:pe≤549755813888:=xe
      have b3:=z.2.2
      have b4:(⟨val ps,pe⟩:Fx).e=pe:=rfl
      rw [e3,e2,e1,e4]
      exact ⟨⟨by omega,by omega,s0,s1⟩,⟨by omega,by omega⟩,⟨by omega,by omega⟩,⟨by omega,by omega,by omega,by omega⟩,.inl rfl⟩
    · cases e;exact hp.elim
def pwQ(p0:Fx)(sq:Int):Nat→Fx
  | 0=>p0
  | k+1=>shortF (pwQ p0 sq k) sq
def tmQ(p0:Fx)(sq:Int):Nat→Fx
  | 0=>p0
  | k+1=>shortF (pwQ p0 sq (k+1)) (2*((k+1:Nat):Int)+1)
theorem pwQ_inv(n w:Int):∀ k,pwQ (shortF ⟨2^w.toNat,0⟩ n) (n*n) k=invP n w k
  | 0=>rfl
  | k+1=>by show shortF (pwQ _ _ k) _=shortF (invP n w k) _;rw [pwQ_inv n w k]
theorem tmQ_inv(n w:Int)(k:Nat):tmQ (shortF ⟨2^w.toNat,0⟩ n) (n*n) k=invT n w k:=by
  cases k with
  | zero=>rfl
  | succ k=>show shortF (pwQ _ _ (k+1)) _=shortF (invP n w (k+1)) _;rw [pwQ_inv]
def kQ(p0:Fx)(sq:Int):Nat:=findK (fun k=>decide ((tmQ p0 sq k).a=0)) 1048576 1
def sumQ(p0:Fx)(sq:Int)(b:Nat):Fx:=widerF (SmT (tmQ p0 sq) b (kQ p0 sq)) ((tmQ p0 sq (kQ p0 sq)).e+4)
def QOk(p0:Fx)(sq:Int):Prop :=
  1≤kQ p0 sq∧kQ p0 sq≤1048577∧(tmQ p0 sq (kQ p0 sq)).a=0∧(∀ k,1≤k→k<kQ p0 sq→(tmQ p0 sq k).a≠0)∧(∀ k,k<kQ p0 sq→prI (pwQ p0 sq k) ((k:Int)+1) sq) ∧
    (∀ k,k≤kQ p0 sq→((tmQ p0 sq k).Ok∧(tmQ p0 sq k).e≤549755813888)∧(SmT (tmQ p0 sq) 0 k).Ok∧(SmT (tmQ p0 sq) 1 k).Ok)
def sSmI(gP:Fx→Int→Fx)(gT:Fx→Int→Int→Fx)(pr:Fx→Int→Int→Prop):List (FuncId×Spec):=[(197,seAdd),(190,seWid),(202+effK,wInv gP gT pr)]
theorem sSmI_ok:SpecsOk Tryz.prog (sSmI gPI gTI prI):=⟨seAdd_ok,seWid_ok,cInv_ok,trivial⟩
def siK:LKeep:=⟨[1,4,5,6,7,8],[(0,2),(2,2),(3,2),(5,4),(8,2)],11⟩
def invFn(sq:Int):At:=.fn 202 [.ptr 0 0,.ref [.int .u64 sq]]
def siCells(P T S0 S1:Nat→Fx)(k j:Nat)(n0 n1:Bool):List (Nat×Nat×At) :=
  clX 0 0 false (fw (P k)) ++ ([(2,0,.words true []),(2,1,.int .u64 0),(3,0,.words true []),(3,1,.int .u64 0)] ++ (clX 5 0 n0 (fw (S0 j)) ++ (clX 5 2 n1 (fw (S1 j)) ++ clX 8 0 false (fw (T k)))))
def siSlots(sq:Int)(k:Nat):List (Nat×Tv):=[(1,.sv (.one (invFn sq))),(4,.sv (.one (.ptr 2 0))),(5,.sv (.one (.ptr 3 0))),(6,.sv (.one (.ptr 5 0))),(7,.sv (.one (.ptr 8 0))),(8,iT (k:Nat))]
def siSt(sq:Int)(P T S0 S1:Nat→Fx)(a:Nat×Bool×Bool):List (Nat×Tv)×List (Nat×Nat×At):=(siSlots sq a.1,siCells P T S0 S1 a.1 a.1 a.2.1 a.2.2)
def siSt7(sq:Int)(P T S0 S1:Nat→Fx)(a:Nat×Bool×Bool):List (Nat×Tv)×List (Nat×Nat×At):=(siSlots sq a.1,siCells P T S0 S1 a.1 (a.1+1) a.2.1 a.2.2)
def siCut(sq:Int)(P T S0 S1:Nat→Fx)(K:Nat)(a:Nat×Bool×Bool)(n:Nat):Option LInv :=
  match Nat.beq 6 n with
  | true=>some (.cut siK (Nat×Bool×Bool) (siSt sq P T S0 S1) (fun x=>x.1=a.1∧x.1<K))
  | false=>match Nat.beq 7 n with
    | true=>some (.cut siK (Nat×Bool×Bool) (siSt7 sq P T S0 S1) (fun x=>x.1=a.1∧x.1<K))
    | false=>none
def siInv(sq:Int)(P T S0 S1:Nat→Fx)(K:Nat):Nat→Option LInv :=
  invAt 4 (.relI siK (Nat×Bool×Bool) (siSt sq P T S0 S1) (fun a=>a.1≤K) (fun a=>K-a.1) (siCut sq P T S0 S1 K))
theorem sumI_vc(gP:Fx→Int→Fx)(gT:Fx→Int→Int→Fx)(pr:Fx→Int→Int→Prop)(P T S0 S1:Nat→Fx)(K:Nat)(t:Fw)(ps:List Int)(pe sq:Int)(Q:Tv→Prop):execFE ⟨tys4,sSmI gP gT pr⟩ (siInv sq P T S0 S1 K) 0 Tryz.f185 [.words false ps,.int .u64 pe] [.agg (fwL false t),.one (invFn sq)] Q=(true=true∧(∃ (a:Nat×Bool×Bool),a.fst≤K∧Sg.mk [(1,Tv.sv (Sv.one (At.fn 202 [At.ptr 0 0,At.ref [At.int .u64 sq]]))),(4,Tv.sv (Sv.one (At.ptr ((1:Nat)+1) 0))),(5,Tv.sv (Sv.one (At.ptr ((1:Nat)+2) 0))),(6,Tv.sv (Sv.one (At.ptr ((4:Nat)+1) 0))),(7,Tv.sv (Sv.one (At.ptr ((7:Nat)+1) 0))),(8,iT 0)] [(0,0,At.words false ps),(0,1,At.int .u64 pe),(2,0,At.words true []),(2,1,At.int .u64 0),(3,0,At.words true []),(3,1,At.int .u64 0),(5,0,At.words true []),(5,1,At.int .u64 0),(5,2,At.words true []),(5,3,At.int .u64 0),(8,0,At.words false t.xs),(8,1,At.int .u64 t.e)] 11=LKeep.at siK (siSt sq P T S0 S1 a))∧∀ (a:Nat×Bool×Bool),a.fst≤K→br (ltI 0 (↑(List.length (fw (T a.fst)).xs):Int)) (true=true∧∃ (x:Nat×Bool×Bool),(x.fst=a.fst∧x.fst<K)∧Sg.mk [(1,Tv.sv (Sv.one (At.fn 202 [At.ptr 0 0,At.ref [At.int .u64 sq]]))),(4,Tv.sv (Sv.one (At.ptr 2 0))),(5,Tv.sv (Sv.one (At.ptr 3 0))),(6,Tv.sv (Sv.one (At.ptr 5 0))),(7,Tv.sv (Sv.one (At.ptr 8 0))),(8,iT (↑a.fst:Int))] [(0,0,At.words false (fw (P a.fst)).xs),(0,1,At.int .u64 (fw (P a.fst)).e),(2,0,At.words true []),(2,1,At.int .u64 0),(3,0,At.words true []),(3,1,At.int .u64 0),(5,0,At.words a.snd.fst (fw (S0 a.fst)).xs),(5,1,At.int .u64 (fw (S0 a.fst)).e),(5,2,At.words a.snd.snd (fw (S1 a.fst)).xs),(5,3,At.int .u64 (fw (S1 a.fst)).e),(8,0,At.words false (fw (T a.fst)).xs),(8,1,At.int .u64 (fw (T a.fst)).e)] 11=LKeep.at siK (siSt sq P T S0 S1 x)) (br (eqI (↑a.fst:Int) 0) (true=true∧∃ (x:Nat×Bool×Bool),(x.fst=a.fst∧x.fst<K)∧Sg.mk [(1,Tv.sv (Sv.one (At.fn 202 [At.ptr 0 0,At.ref [At.int .u64 sq]]))),(4,Tv.sv (Sv.one (At.ptr 2 0))),(5,Tv.sv (Sv.one (At.ptr 3 0))),(6,Tv.sv (Sv.one (At.ptr 5 0))),(7,Tv.sv (Sv.one (At.ptr 8 0))),(8,iT (↑a.fst:Int))] [(0,0,At.words false (fw (P a.fst)).xs),(0,1,At.int .u64 (fw (P a.fst)).e),(2,0,At.words true []),(2,1,At.int .u64 0),(3,0,At.words true []),(3,1,At.int .u64 0),(5,0,At.words a.snd.fst (fw (S0 a.fst)).xs),(5,1,At.int .u64 (fw (S0 a.fst)).e),(5,2,At.words a.snd.snd (fw (S1 a.fst)).xs),(5,3,At.int .u64 (fw (S1 a.fst)).e),(8,0,At.words false (fw (T a.fst)).xs),(8,1,At.int .u64 (fw (T a.fst)).e)] 11=LKeep.at siK (siSt sq P T S0 S1 x)) (((0:Int)≤0∧(0:Int)<(↑(2:Nat):Int))∧(Fw.Ok (fw (S0 a.fst))∧(0:Int)≤IntKind.wrap IntKind.u64 ((fw (T a.fst)).e+4)∧IntKind.wrap IntKind.u64 ((fw (T a.fst)).e+4)≤1099511627776∧(fw (S0 a.fst)).xs=ws (val (fw (S0 a.fst)).xs))∧((0:Int)≤1∧(1:Int)<(↑(2:Nat):Int))∧(Fw.Ok (fw (S1 a.fst))∧(0:Int)≤IntKind.wrap IntKind.u64 ((fw (T a.fst)).e+4)∧IntKind.wrap IntKind.u64 ((fw (T a.fst)).e+4)≤1099511627776∧(fw (S1 a.fst)).xs=ws (val (fw (S1 a.fst)).xs))∧true=true∧Q (Tv.tup [Sv.agg (fwL false (fw (P a.fst))),Sv.agg (fwL false (fw (widerF (Fw.f (fw (S0 a.fst))) (IntKind.wrap IntKind.u64 ((fw (T a.fst)).e+4))))),Sv.agg (fwL false (fw (widerF (Fw.f (fw (S1 a.fst))) (IntKind.wrap IntKind.u64 ((fw (T a.fst)).e+4)))))])))∧∀ (x:Nat×Bool×Bool),x.fst=a.fst∧x.fst<K→((2:Int)≠0∧(2:Int)≠0∧br (eqI (Int.tmod (↑x.fst:Int) 2) 0) (((0:Int)≤Int.tmod (↑x.fst:Int) 2∧Int.tmod (↑x.fst:Int) 2<(↑(2:Nat):Int))∧(Fw.Ok (fw (S0 x.fst))∧Fw.Ok (fw (T x.fst)))∧br (eqI (Int.tmod (↑x.fst:Int) 2) 0) (((0:Int)≤Int.tmod (↑x.fst:Int) 2∧Int.tmod (↑x.fst:Int) 2<(↑(2:Nat):Int))∧true=true∧true=true∧∃ (x_1:Nat×Bool×Bool),(x_1.fst=a.fst∧x_1.fst<K)∧Sg.mk [(1,Tv.sv (Sv.one (At.fn 202 [At.ptr 0 0,At.ref [At.int .u64 sq]]))),(4,Tv.sv (Sv.one (At.ptr 2 0))),(5,Tv.sv (Sv.one (At.ptr 3 0))),(6,Tv.sv (Sv.one (At.ptr 5 0))),(7,Tv.sv (Sv.one (At.ptr 8 0))),(8,iT (↑x.fst:Int))] [(0,0,At.words false (fw (P x.fst)).xs),(0,1,At.int .u64 (fw (P x.fst)).e),(2,0,At.words true []),(2,1,At.int .u64 0),(3,0,At.words true []),(3,1,At.int .u64 0),(5,0,At.words false (fw (addF (Fw.f (fw (S0 x.fst))) (Fw.f (fw (T x.fst))))).xs),(5,1,At.int .u64 (fw (addF (Fw.f (fw (S0 x.fst))) (Fw.f (fw (T x.fst))))).e),(5,2,At.words x.snd.snd (fw (S1 x.fst)).xs),(5,3,At.int .u64 (fw (S1 x.fst)).e),(8,0,At.words false (fw (T x.fst)).xs),(8,1,At.int .u64 (fw (T x.fst)).e)] 11=LKeep.at siK (siSt7 sq P T S0 S1 x_1)) (((0:Int)≤Int.tmod (↑x.fst:Int) 2∧Int.tmod (↑x.fst:Int) 2<(↑(2:Nat):Int))∧true=true∧true=true∧∃ (x_1:Nat×Bool×Bool),(x_1.fst=a.fst∧x_1.fst<K)∧Sg.mk [(1,Tv.sv (Sv.one (At.fn 202 [At.ptr 0 0,At.ref [At.int .u64 sq]]))),(4,Tv.sv (Sv.one (At.ptr 2 0))),(5,Tv.sv (Sv.one (At.ptr 3 0))),(6,Tv.sv (Sv.one (At.ptr 5 0))),(7,Tv.sv (Sv.one (At.ptr 8 0))),(8,iT (↑x.fst:Int))] [(0,0,At.words false (fw (P x.fst)).xs),(0,1,At.int .u64 (fw (P x.fst)).e),(2,0,At.words true []),(2,1,At.int .u64 0),(3,0,At.words true []),(3,1,At.int .u64 0),(5,0,At.words x.snd.fst (fw (S0 x.fst)).xs),(5,1,At.int .u64 (fw (S0 x.fst)).e),(5,2,At.words false (fw (addF (Fw.f (fw (S0 x.fst))) (Fw.f (fw (T x.fst))))).xs),(5,3,At.int .u64 (fw (addF (Fw.f (fw (S0 x.fst))) (Fw.f (fw (T x.fst))))).e),(8,0,At.words false (fw (T x.fst)).xs),(8,1,At.int .u64 (fw (T x.fst)).e)] 11=LKeep.at siK (siSt7 sq P T S0 S1 x_1))) (((0:Int)≤Int.tmod (↑x.fst:Int) 2∧Int.tmod (↑x.fst:Int) 2<(↑(2:Nat):Int))∧(Fw.Ok (fw (S1 x.fst))∧Fw.Ok (fw (T x.fst)))∧br (eqI (Int.tmod (↑x.fst:Int) 2) 0) (((0:Int)≤Int.tmod (↑x.fst:Int) 2∧Int.tmod (↑x.fst:Int) 2<(↑(2:Nat):Int))∧true=true∧true=true∧∃ (x_1:Nat×Bool×Bool),(x_1.fst=a.fst∧x_1.fst<K)∧Sg.mk [(1,Tv.sv (Sv.one (At.fn 202 [At.ptr 0 0,At.ref [At.int .u64 sq]]))),(4,Tv.sv (Sv.one (At.ptr 2 0))),(5,Tv.sv (Sv.one (At.ptr 3 0))),(6,Tv.sv (Sv.one (At.ptr 5 0))),(7,Tv.sv (Sv.one (At.ptr 8 0))),(8,iT (↑x.fst:Int))] [(0,0,At.words false (fw (P x.fst)).xs),(0,1,At.int .u64 (fw (P x.fst)).e),(2,0,At.words true []),(2,1,At.int .u64 0),(3,0,At.words true []),(3,1,At.int .u64 0),(5,0,At.words false (fw (addF (Fw.f (fw (S1 x.fst))) (Fw.f (fw (T x.fst))))).xs),(5,1,At.int .u64 (fw (addF (Fw.f (fw (S1 x.fst))) (Fw.f (fw (T x.fst))))).e),(5,2,At.words x.snd.snd (fw (S1 x.fst)).xs),(5,3,At.int .u64 (fw (S1 x.fst)).e),(8,0,At.words false (fw (T x.fst)).xs),(8,1,At.int .u64 (fw (T x.fst)).e)] 11=LKeep.at siK (siSt7 sq P T S0 S1 x_1)) (((0:Int)≤Int.tmod (↑x.fst:Int) 2∧Int.tmod (↑x.fst:Int) 2<(↑(2:Nat):Int))∧true=true∧true=true∧∃ (x_1:Nat×Bool×Bool),(x_1.fst=a.fst∧x_1.fst<K)∧Sg.mk [(1,Tv.sv (Sv.one (At.fn 202 [At.ptr 0 0,At.ref [At.int .u64 sq]]))),(4,Tv.sv (Sv.one (At.ptr 2 0))),(5,Tv.sv (Sv.one (At.ptr 3 0))),(6,Tv.sv (Sv.one (At.ptr 5 0))),(7,Tv.sv (Sv.one (At.ptr 8 0))),(8,iT (↑x.fst:Int))] [(0,0,At.words false (fw (P x.fst)).xs),(0,1,At.int .u64 (fw (P x.fst)).e),(2,0,At.words true []),(2,1,At.int .u64 0),(3,0,At.words true []),(3,1,At.int .u64 0),(5,0,At.words x.snd.fst (fw (S0 x.fst)).xs),(5,1,At.int .u64 (fw (S0 x.fst)).e),(5,2,At.words false (fw (addF (Fw.f (fw (S1 x.fst))) (Fw.f (fw (T x.fst))))).xs),(5,3,At.int .u64 (fw (addF (Fw.f (fw (S1 x.fst))) (Fw.f (fw (T x.fst))))).e),(8,0,At.words false (fw (T x.fst)).xs),(8,1,At.int .u64 (fw (T x.fst)).e)] 11=LKeep.at siK (siSt7 sq P T S0 S1 x_1))))∧∀ (x:Nat×Bool×Bool),x.fst=a.fst∧x.fst<K→inR ((↑x.fst:Int)+1)∧((fw (P x.fst)).xs=ws (val (fw (P x.fst)).xs)∧pr (Fx.mk (val (fw (P x.fst)).xs) (fw (P x.fst)).e) ((↑x.fst:Int)+1) sq)∧inR ((↑x.fst:Int)+1)∧true=true∧∃ (a':Nat×Bool×Bool),a'.fst≤K∧Sg.mk [(1,Tv.sv (Sv.one (At.fn 202 [At.ptr 0 0,At.ref [At.int .u64 sq]]))),(4,Tv.sv (Sv.one (At.ptr 2 0))),(5,Tv.sv (Sv.one (At.ptr 3 0))),(6,Tv.sv (Sv.one (At.ptr 5 0))),(7,Tv.sv (Sv.one (At.ptr 8 0))),(8,iT ((↑x.fst:Int)+1))] [(0,0,At.words false (fw (gP (Fx.mk (val (fw (P x.fst)).xs) (fw (P x.fst)).e) sq)).xs),(0,1,At.int .u64 (fw (gP (Fx.mk (val (fw (P x.fst)).xs) (fw (P x.fst)).e) sq)).e),(2,0,At.words true []),(2,1,At.int .u64 0),(3,0,At.words true []),(3,1,At.int .u64 0),(5,0,At.words x.snd.fst (fw (S0 (x.fst+1))).xs),(5,1,At.int .u64 (fw (S0 (x.fst+1))).e),(5,2,At.words x.snd.snd (fw (S1 (x.fst+1))).xs),(5,3,At.int .u64 (fw (S1 (x.fst+1))).e),(8,0,At.words false (fw (gT (Fx.mk (val (fw (P x.fst)).xs) (fw (P x.fst)).e) ((↑x.fst:Int)+1) sq)).xs),(8,1,At.int .u64 (fw (gT (Fx.mk (val (fw (P x.fst)).xs) (fw (P x.fst)).e) ((↑x.fst:Int)+1) sq)).e)] 11=LKeep.at siK (siSt sq P T S0 S1 a')∧K-a'.fst<K-a.fst):=by kernel_rfl
def wSumI(gQ:Fx→Int→Nat→Fx)(pQ:Fx→Int→Fx)(pr:Fx→Int→Prop):Spec:=fun l=>match l with
  | [.agg [.words false ps,.int .u64 pe],.agg [.words false xs,.int .u64 e],.one (.fn n [.ptr 0 0,.ref [.int .u64 sq]])]=>(match Nat.beq n 202 with
    | true=>(some (ps=ws (val ps)∧xs=ps∧e=pe∧pr ⟨val ps,pe⟩ sq),
        .tup [.agg (fwL false (fw (pQ ⟨val ps,pe⟩ sq))),.agg (fwL false (fw (gQ ⟨val ps,pe⟩ sq 0))),.agg (fwL false (fw (gQ ⟨val ps,pe⟩ sq 1)))])
    | false=>noSpec)
  | _=>noSpec
def endQ(p:Fx)(sq:Int):Fx:=pwQ p sq (kQ p sq)
def seSumI:Spec:=wSumI sumQ endQ QOk
theorem seSumI_ok:EffOk Tryz.prog 185 seSumI :=
  effOk_pat (envOk tys4_ok sSmI_ok) mixed Tryz.func185 rfl (by decide) 2 (by decide) fun l args p t _ _ e hp=>by
    unfold seSumI wSumI at e
    split at e
    · rename_i ps pe xs e0 n sq heq
      cases heq
      split at e
      rotate_left
      · cases e;exact hp.elim
      rename_i hb
      obtain rfl:=Nat.eq_of_beq_eq_true hb
      cases e
      obtain ⟨hx,hxp,hep,c1,c2,c3,c4,c5,c6⟩:ps=ws (val ps)∧xs=ps∧e0=pe∧QOk ⟨val ps,pe⟩ sq:=hp
      subst hxp hep
      unfold sumQ endQ
      generalize hK:kQ ⟨val xs,e0⟩ sq=K at *
      generalize ht:(⟨val xs,e0⟩:Fx)=t at *
      have l0:∀ k,k≤K→(ltI 0 ((ws (tmQ t sq k).a).length:Nat)=decide ((tmQ t sq k).a≠0)):=fun k hk=>len_pos (c6 k hk).1.1.1
      refine ⟨Nat.le_refl 2,siInv sq (pwQ t sq) (tmQ t sq) (SmT (tmQ t sq) 0) (SmT (tmQ t sq) 1) K,0,(sumI_vc gPI gTI prI (pwQ t sq) (tmQ t sq) (SmT (tmQ t sq) 0) (SmT (tmQ t sq) 1) K ⟨xs,e0⟩ xs e0 sq _).mpr ?_⟩
      have ew:∀ z:Fx,(fw z).e=z.e:=fun _=>rfl
      have ex:∀ z:Fx,(fw z).xs=ws z.a:=fun _=>rfl
      have w4:∀ k,k≤K→IntKind.u64.wrap ((tmQ t sq k).e+4)=(tmQ t sq k).e+4:=fun k hk=>wrap_w ⟨by have:=(c6 k hk).1.1.2.2;omega,by have:=(c6 k hk).1.1.2.2;omega⟩
      have fwt:∀ k,k≤K→(fw (tmQ t sq k)).f=tmQ t sq k:=fun k hk=>fw_f (c6 k hk).1.1.1
      have fw0:∀ k,k≤K→(fw (SmT (tmQ t sq) 0 k)).f=SmT (tmQ t sq) 0 k:=fun k hk=>fw_f (c6 k hk).2.1.1
      have fw1:∀ k,k≤K→(fw (SmT (tmQ t sq) 1 k)).f=SmT (tmQ t sq) 1 k:=fun k hk=>fw_f (c6 k hk).2.2.1
      have vP:∀ k,k<K→val (ws (pwQ t sq k).a)=(pwQ t sq k).a:=fun k hk=>val_ws (c5 k hk).1.1
      refine ⟨rfl,⟨(0,true,true),Nat.zero_le _,?_⟩,fun a ha=>⟨br_intro (fun h=>⟨rfl,a,⟨rfl,?_⟩,rfl⟩) fun h=>br_intro (fun h'=>⟨rfl,a,⟨rfl,?_⟩,rfl⟩) fun h'=>?_,fun x ⟨hxa,hx⟩=>⟨⟨by decide,by decide,?_⟩,fun y ⟨hya,hy0⟩=>?_⟩⟩⟩
      · have q2:fw t=⟨xs,e0⟩:=by rw [←ht];show (⟨ws (val xs),e0⟩:Fw)=_;rw [←hx]
        have q0:∀ b,fw (SmT (tmQ t sq) b 0)=⟨[],0⟩:=fun b=>by show (⟨ws 0,0⟩:Fw)=_;rw [ws_zero]
        have z:siSt sq (pwQ t sq) (tmQ t sq) (SmT (tmQ t sq) 0) (SmT (tmQ t sq) 1) (0,true,true)=([(1,.sv (.one (invFn sq))),(4,.sv (.one (.ptr 2 0))),(5,.sv (.one (.ptr 3 0))),(6,.sv (.one (.ptr 5 0))),(7,.sv (.one (.ptr 8 0))),(8,iT 0)],
            [(0,0,.words false xs),(0,1,.int .u64 e0),(2,0,.words true []),(2,1,.int .u64 0),(3,0,.words true []),(3,1,.int .u64 0),(5,0,.words true []),(5,1,.int .u64 0),(5,2,.words true []),(5,3,.int .u64 0),(8,0,.words false xs),(8,1,.int .u64 e0)]):=by
          unfold siSt siCells
          show (_,clX 0 0 false (fw t) ++ (_ ++ (clX 5 0 true (fw (SmT (tmQ t sq) 0 0)) ++ (clX 5 2 true (fw (SmT (tmQ t sq) 1 0)) ++ clX 8 0 false (fw t)))))=_
          rw [q0,q0,q2];rfl
        unfold LKeep.at
        rw [z];rfl
      · have h:=(l0 a.1 ha).symm.trans h
        rcases Nat.lt_or_ge a.1 K with k | k
        · exact k
        · rw [show a.1=K by omega,c3] at h;simp at h
      · have:=eqI_true.1 h';omega
      · have h:=(l0 a.1 ha).symm.trans h
        have h':=eqI_false.1 h'
        have hk:a.1=K:=by
          rcases Nat.lt_or_ge a.1 K with k | k
          · have:=c4 a.1 (by omega) k;simp at h;exact absurd h this
          · omega
        obtain ⟨o1,o2,o3⟩:=c6 K (Nat.le_refl _)
        rw [hk,ew,w4 K (Nat.le_refl _),fw0 K (Nat.le_refl _),fw1 K (Nat.le_refl _),ex,ex,val_ws o2.1,val_ws o3.1]
        have p0:=o1.1.2.2
        have p1:=o1.2
        exact ⟨⟨by omega,by omega⟩,⟨o2.w,by omega,by omega,rfl⟩,⟨by omega,by omega⟩,⟨o3.w,by omega,by omega,rfl⟩,rfl,.inl rfl⟩
      · obtain ⟨o1,o2,o3⟩:=c6 x.1 (by omega)
        have i0:(0:Int)≤Int.tmod (x.1:Int) 2∧Int.tmod (x.1:Int) 2<((2:Nat):Int):=by rw [tmod2];omega
        rw [fw0 x.1 (by omega),fw1 x.1 (by omega),fwt x.1 (by omega)]
        refine br_intro (fun h=>⟨i0,⟨o2.w,o1.1.w⟩,br_intro (fun h'=>⟨i0,rfl,rfl,(x.1,false,x.2.2),⟨hxa,hx⟩,?_⟩) fun h'=>?_⟩) fun h=>⟨i0,⟨o3.w,o1.1.w⟩,br_intro (fun h'=>?_) fun h'=>⟨i0,rfl,rfl,(x.1,x.2.1,false),⟨hxa,hx⟩,?_⟩⟩
        · have h2:=eqI_true.1 h
          rw [tmod2] at h2
          have e1:SmT (tmQ t sq) 0 (x.1+1)=addF (SmT (tmQ t sq) 0 x.1) (tmQ t sq x.1):=if_pos (by omega)
          have e2:SmT (tmQ t sq) 1 (x.1+1)=SmT (tmQ t sq) 1 x.1:=if_neg (by omega)
          unfold LKeep.at siSt7 siCells
          rw [e1,e2];rfl
        · rw [h] at h';cases h'
        · rw [h] at h';cases h'
        · have h2:=eqI_false.1 h
          rw [tmod2] at h2
          have e1:SmT (tmQ t sq) 1 (x.1+1)=addF (SmT (tmQ t sq) 1 x.1) (tmQ t sq x.1):=if_pos (by omega)
          have e2:SmT (tmQ t sq) 0 (x.1+1)=SmT (tmQ t sq) 0 x.1:=if_neg (by omega)
          unfold LKeep.at siSt7 siCells
          rw [e1,e2];rfl
      · rw [ex,ew,vP y.1 (by omega)]
        refine ⟨⟨by omega,by omega⟩,⟨rfl,c5 y.1 hy0⟩,⟨by omega,by omega⟩,rfl,(y.1+1,y.2.1,y.2.2),hy0,?_,by show K-(y.1+1)<K-a.1;omega⟩
        rfl
    · cases e;exact hp.elim
section
variable {n w:Int} (h:InvOk n w)
include h
theorem invP_le(k:Nat):0≤(invP n w k).a∧(invP n w k).a≤2^w.toNat:=by
  have a0:=(invP_in h k).a0
  have s:=invP_small h k
  have p:=two_pow_pos k
  have m:=imL (show (1:Int)≤2^k by omega) a0
  exact ⟨a0,by omega⟩
theorem fx_small{z:Fx}(a0:0≤z.a)(a1:z.a≤2*2^w.toNat)(e0:0≤z.e)(e1:z.e≤549755813888):z.Ok:=by
  have w0:=h.w0
  have w1:=h.w1
  have:blen z.a≤w.toNat+1+1:=blen_pow_le (by rw [Int.pow_succ];omega)
  exact ⟨a0,by omega,e0,by omega⟩
theorem invP_ok(k:Nat):(invP n w k).Ok:=by
  have a:=invP_le h k
  have e:=invP_e h k
  exact fx_small h a.1 (by omega) (by omega) (by omega)
theorem invT_ok(k:Nat):(invT n w k).Ok:=by
  have a:=invP_le h k
  have b:=invT_le h k
  have c:=(invT_in h k).a0
  have e:=invT_e h k
  exact fx_small h c (by omega) (by omega) (by omega)
theorem invM_ok(b:Nat){k:Nat}(hk:(k:Int)≤w+2):(SmT (invT n w) b k).Ok:=by
  have a:=smI_a h b k
  have p0:=(invP_in h k).a0
  have q:=invP_le h 0
  have e:=smI_e h b k
  have w1:=h.w1
  exact fx_small h a.1 (by omega) e.1 (by omega)
omit h in
theorem tmQ_fun(n w:Int):tmQ (shortF ⟨2^w.toNat,0⟩ n) (n*n)=invT n w:=funext fun k=>tmQ_inv n w k
omit h in
theorem kQ_inv(n w:Int):kQ (shortF ⟨2^w.toNat,0⟩ n) (n*n)=invK n w:=by
  unfold kQ invK
  rw [tmQ_fun]
theorem qok_inv:QOk (shortF ⟨2^w.toNat,0⟩ n) (n*n):=by
  obtain ⟨k1,k2,k3,k4⟩:=invK_spec h
  have w1:=h.w1
  have n0:=h.n0
  have n1:=h.n1
  have sq:=sq_ge n0
  have sq1:n*n≤10000*10000:=Int.mul_le_mul n1 n1 (by omega) (by omega)
  unfold QOk
  rw [kQ_inv,tmQ_fun]
  refine ⟨k1,by omega,k3,k4,fun k hk=>?_,fun k hk=>⟨⟨invT_ok h k,by rw [invT_e h];omega⟩,invM_ok h 0 (by omega),invM_ok h 1 (by omega)⟩⟩
  rw [pwQ_inv]
  exact ⟨invP_ok h k,by rw [invP_e h];omega,by omega,by omega,by omega,by omega⟩
omit h in
theorem sumQ_inv(n w:Int)(b:Nat):sumQ (shortF ⟨2^w.toNat,0⟩ n) (n*n) b=invR n w b:=by
  unfold sumQ invR
  rw [kQ_inv,tmQ_fun]
theorem invR_ok{b:Nat}(hb:b≤1):(invR n w b).Ok:=by
  have r:=invR_bd h
  have q:=invP_le h 0
  have w1:=h.w1
  rcases (show b=0∨b=1 by omega) with rfl | rfl
  · exact fx_small h (by omega) (by omega) (by omega) (by omega)
  · exact fx_small h (by omega) (by omega) (by omega) (by omega)
end
def sInv(gQ:Fx→Int→Nat→Fx)(pQ:Fx→Int→Fx)(pr:Fx→Int→Prop):List (FuncId×Spec):=[(186,seOne),(189,seShort),(197,seAdd),(191,seSub),(120,lOf),(164,lMul),
  (185+effK,wSumI gQ pQ pr)]
theorem cInverse_vc(n times w:Int)(turned:Bool)(gQ:Fx→Int→Nat→Fx)(pQ:Fx→Int→Fx)(pr:Fx→Int→Prop)(Q:Tv→Prop):execF ⟨tys4,sInv gQ pQ pr⟩ (fun _=>none) 0 Tryz.f196 [.one (.int .u64 n),.one (.int .u64 times),.one (.bool turned),.one (.int .i64 w)] Q=(((0:Int)≤w∧w≤16777216)∧((0:Int)≤(fw (Fx.mk ((2:Int)^Int.toNat w) 0)).e∧(fw (Fx.mk ((2:Int)^Int.toNat w) 0)).e≤1099511627776∧(0:Int)<n∧n<18446744073709551616)∧((fw (shortF (Fw.f (fw (Fx.mk ((2:Int)^Int.toNat w) 0))) n)).xs=ws (val (fw (shortF (Fw.f (fw (Fx.mk ((2:Int)^Int.toNat w) 0))) n)).xs)∧(fw (shortF (Fw.f (fw (Fx.mk ((2:Int)^Int.toNat w) 0))) n)).xs=(fw (shortF (Fw.f (fw (Fx.mk ((2:Int)^Int.toNat w) 0))) n)).xs∧(fw (shortF (Fw.f (fw (Fx.mk ((2:Int)^Int.toNat w) 0))) n)).e=(fw (shortF (Fw.f (fw (Fx.mk ((2:Int)^Int.toNat w) 0))) n)).e∧pr (Fx.mk (val (fw (shortF (Fw.f (fw (Fx.mk ((2:Int)^Int.toNat w) 0))) n)).xs) (fw (shortF (Fw.f (fw (Fx.mk ((2:Int)^Int.toNat w) 0))) n)).e) (IntKind.wrap IntKind.u64 (n*n)))∧(Fw.Ok (fw (gQ (Fx.mk (val (fw (shortF (Fw.f (fw (Fx.mk ((2:Int)^Int.toNat w) 0))) n)).xs) (fw (shortF (Fw.f (fw (Fx.mk ((2:Int)^Int.toNat w) 0))) n)).e) (IntKind.wrap IntKind.u64 (n*n)) 0))∧Fw.Ok (fw (gQ (Fx.mk (val (fw (shortF (Fw.f (fw (Fx.mk ((2:Int)^Int.toNat w) 0))) n)).xs) (fw (shortF (Fw.f (fw (Fx.mk ((2:Int)^Int.toNat w) 0))) n)).e) (IntKind.wrap IntKind.u64 (n*n)) 1)))∧br turned ((Fw.Ok (fw (gQ (Fx.mk (val (fw (shortF (Fw.f (fw (Fx.mk ((2:Int)^Int.toNat w) 0))) n)).xs) (fw (shortF (Fw.f (fw (Fx.mk ((2:Int)^Int.toNat w) 0))) n)).e) (IntKind.wrap IntKind.u64 (n*n)) 0))∧Fw.Ok (fw (gQ (Fx.mk (val (fw (shortF (Fw.f (fw (Fx.mk ((2:Int)^Int.toNat w) 0))) n)).xs) (fw (shortF (Fw.f (fw (Fx.mk ((2:Int)^Int.toNat w) 0))) n)).e) (IntKind.wrap IntKind.u64 (n*n)) 1))∧(Fw.f (fw (gQ (Fx.mk (val (fw (shortF (Fw.f (fw (Fx.mk ((2:Int)^Int.toNat w) 0))) n)).xs) (fw (shortF (Fw.f (fw (Fx.mk ((2:Int)^Int.toNat w) 0))) n)).e) (IntKind.wrap IntKind.u64 (n*n)) 1))).a+(Fw.f (fw (gQ (Fx.mk (val (fw (shortF (Fw.f (fw (Fx.mk ((2:Int)^Int.toNat w) 0))) n)).xs) (fw (shortF (Fw.f (fw (Fx.mk ((2:Int)^Int.toNat w) 0))) n)).e) (IntKind.wrap IntKind.u64 (n*n)) 1))).e≤(Fw.f (fw (gQ (Fx.mk (val (fw (shortF (Fw.f (fw (Fx.mk ((2:Int)^Int.toNat w) 0))) n)).xs) (fw (shortF (Fw.f (fw (Fx.mk ((2:Int)^Int.toNat w) 0))) n)).e) (IntKind.wrap IntKind.u64 (n*n)) 0))).a)∧Word times∧List.length (ws (val (fw (subF (Fw.f (fw (gQ (Fx.mk (val (fw (shortF (Fw.f (fw (Fx.mk ((2:Int)^Int.toNat w) 0))) n)).xs) (fw (shortF (Fw.f (fw (Fx.mk ((2:Int)^Int.toNat w) 0))) n)).e) (IntKind.wrap IntKind.u64 (n*n)) 0))) (Fw.f (fw (gQ (Fx.mk (val (fw (shortF (Fw.f (fw (Fx.mk ((2:Int)^Int.toNat w) 0))) n)).xs) (fw (shortF (Fw.f (fw (Fx.mk ((2:Int)^Int.toNat w) 0))) n)).e) (IntKind.wrap IntKind.u64 (n*n)) 1))))).xs))+List.length (ws (val (ws times)))≤17592186044415∧true=true∧Q (Tv.sv (Sv.agg [At.words true (ws (val (fw (subF (Fw.f (fw (gQ (Fx.mk (val (fw (shortF (Fw.f (fw (Fx.mk ((2:Int)^Int.toNat w) 0))) n)).xs) (fw (shortF (Fw.f (fw (Fx.mk ((2:Int)^Int.toNat w) 0))) n)).e) (IntKind.wrap IntKind.u64 (n*n)) 0))) (Fw.f (fw (gQ (Fx.mk (val (fw (shortF (Fw.f (fw (Fx.mk ((2:Int)^Int.toNat w) 0))) n)).xs) (fw (shortF (Fw.f (fw (Fx.mk ((2:Int)^Int.toNat w) 0))) n)).e) (IntKind.wrap IntKind.u64 (n*n)) 1))))).xs*val (ws times))),At.int .u64 (IntKind.wrap IntKind.u64 ((fw (subF (Fw.f (fw (gQ (Fx.mk (val (fw (shortF (Fw.f (fw (Fx.mk ((2:Int)^Int.toNat w) 0))) n)).xs) (fw (shortF (Fw.f (fw (Fx.mk ((2:Int)^Int.toNat w) 0))) n)).e) (IntKind.wrap IntKind.u64 (n*n)) 0))) (Fw.f (fw (gQ (Fx.mk (val (fw (shortF (Fw.f (fw (Fx.mk ((2:Int)^Int.toNat w) 0))) n)).xs) (fw (shortF (Fw.f (fw (Fx.mk ((2:Int)^Int.toNat w) 0))) n)).e) (IntKind.wrap IntKind.u64 (n*n)) 1))))).e*times))]))) (Word times∧List.length (ws (val (fw (addF (Fw.f (fw (gQ (Fx.mk (val (fw (shortF (Fw.f (fw (Fx.mk ((2:Int)^Int.toNat w) 0))) n)).xs) (fw (shortF (Fw.f (fw (Fx.mk ((2:Int)^Int.toNat w) 0))) n)).e) (IntKind.wrap IntKind.u64 (n*n)) 0))) (Fw.f (fw (gQ (Fx.mk (val (fw (shortF (Fw.f (fw (Fx.mk ((2:Int)^Int.toNat w) 0))) n)).xs) (fw (shortF (Fw.f (fw (Fx.mk ((2:Int)^Int.toNat w) 0))) n)).e) (IntKind.wrap IntKind.u64 (n*n)) 1))))).xs))+List.length (ws (val (ws times)))≤17592186044415∧true=true∧Q (Tv.sv (Sv.agg [At.words true (ws (val (fw (addF (Fw.f (fw (gQ (Fx.mk (val (fw (shortF (Fw.f (fw (Fx.mk ((2:Int)^Int.toNat w) 0))) n)).xs) (fw (shortF (Fw.f (fw (Fx.mk ((2:Int)^Int.toNat w) 0))) n)).e) (IntKind.wrap IntKind.u64 (n*n)) 0))) (Fw.f (fw (gQ (Fx.mk (val (fw (shortF (Fw.f (fw (Fx.mk ((2:Int)^Int.toNat w) 0))) n)).xs) (fw (shortF (Fw.f (fw (Fx.mk ((2:Int)^Int.toNat w) 0))) n)).e) (IntKind.wrap IntKind.u64 (n*n)) 1))))).xs*val (ws times))),At.int .u64 (IntKind.wrap IntKind.u64 ((fw (addF (Fw.f (fw (gQ (Fx.mk (val (fw (shortF (Fw.f (fw (Fx.mk ((2:Int)^Int.toNat w) 0))) n)).xs) (fw (shortF (Fw.f (fw (Fx.mk ((2:Int)^Int.toNat w) 0))) n)).e) (IntKind.wrap IntKind.u64 (n*n)) 0))) (Fw.f (fw (gQ (Fx.mk (val (fw (shortF (Fw.f (fw (Fx.mk ((2:Int)^Int.toNat w) 0))) n)).xs) (fw (shortF (Fw.f (fw (Fx.mk ((2:Int)^Int.toNat w) 0))) n)).e) (IntKind.wrap IntKind.u64 (n*n)) 1))))).e*times))])))):=by kernel_rfl
theorem sInv_ok:SpecsOk Tryz.prog (sInv sumQ endQ QOk):=⟨seOne_ok,seShort_ok,seAdd_ok,seSub_ok,lOf_ok,lMul_ok,seSumI_ok,trivial⟩
theorem InvOk.gap{n w:Int}(h:InvOk n w):(invR n w 1).a+(invR n w 1).e≤(invR n w 0).a∧0≤(invS n w true).a∧(invS n w true).a≤2*2^w.toNat∧(invS n w true).e≤4*w+16∧0≤(invS n w true).e∧0≤(invS n w false).a∧(invS n w false).a≤3*2^w.toNat∧(invS n w false).e≤4*w+16∧0≤(invS n w false).e:=by
  have r:=invR_bd h
  have b:=h.big
  have w0:=h.w0
  have n0:=h.n0
  have q:5*(invP n w 0).a≤2^w.toNat:=by
    have k:2^w.toNat/n≤2^w.toNat/5:=div_anti (by have:=two_pow_pos w.toNat;omega) (by omega) n0
    show 5*(2^w.toNat/n)≤2^w.toNat
    omega
  have g:(invR n w 1).a+(invR n w 1).e≤(invR n w 0).a:=by omega
  have e1:invS n w true=subF (invR n w 0) (invR n w 1):=if_pos rfl
  have e2:invS n w false=addF (invR n w 0) (invR n w 1):=if_neg (by simp)
  rw [e1,e2]
  show _∧0≤(invR n w 0).a-((invR n w 1).a+(invR n w 1).e)∧(invR n w 0).a-((invR n w 1).a+(invR n w 1).e)≤_∧(invR n w 0).e+(invR n w 1).e≤_∧0≤(invR n w 0).e+(invR n w 1).e∧0≤(invR n w 0).a+(invR n w 1).a∧(invR n w 0).a+(invR n w 1).a≤_∧(invR n w 0).e+(invR n w 1).e≤_∧0≤(invR n w 0).e+(invR n w 1).e
  omega
def cInverse:Spec:=specK [.i .u64,.i .u64,.b,.i .i64] fun (n:Int) (times:Int) (turned:Bool) (w:Int)=>(some (InvOk n w∧1≤times∧times≤64),fxT (timesF (invS n w turned) times))
theorem cInverse_ok:SpecOk Tryz.prog 196 cInverse :=
  specKW_ok (envOk tys4_ok sInv_ok) mixed Tryz.func196 rfl (by decide) (by decide) fun (n:Int) _ (times:Int) _ (turned:Bool) _ (w:Int) _ hp=>⟨fun _=>none,0,by
    obtain ⟨h,t0,t1⟩:InvOk n w∧1≤times∧times≤64:=hp
    have w0:=h.w0
    have w1:=h.w1
    have n0:=h.n0
    have n1:=h.n1
    have sq1:n*n≤10000*10000:=Int.mul_le_mul n1 n1 (by omega) (by omega)
    have sq0:=sq_ge n0
    show execF _ _ _ _ _ (fun t=>t=fxT (timesF (invS n w turned) times)∨fgT t=fxT (timesF (invS n w turned) times))
    refine (cInverse_vc n times w turned sumQ endQ QOk _).mpr ?_
    have p:=two_pow_pos w.toNat
    have x1:(fw (⟨2^w.toNat,0⟩:Fx)).f=⟨2^w.toNat,0⟩:=fw_f (by show (0:Int)≤2^w.toNat;omega)
    have x2:IntKind.u64.wrap (n*n)=n*n:=wrap_w ⟨by omega,by omega⟩
    have oP:=invP_ok h 0
    have x3:(⟨val (fw (shortF ⟨2^w.toNat,0⟩ n)).xs,(fw (shortF ⟨2^w.toNat,0⟩ n)).e⟩:Fx)=shortF ⟨2^w.toNat,0⟩ n:=fw_f (z:=shortF ⟨2^w.toNat,0⟩ n) oP.1
    have x4:∀ b,sumQ (shortF ⟨2^w.toNat,0⟩ n) (n*n) b=invR n w b:=fun b=>sumQ_inv n w b
    rw [x1,x2,x3,x4,x4]
    have o0:=invR_ok h (b:=0) (by omega)
    have o1:=invR_ok h (b:=1) (by omega)
    have f0:(fw (invR n w 0)).f=invR n w 0:=fw_f o0.1
    have f1:(fw (invR n w 1)).f=invR n w 1:=fw_f o1.1
    rw [f0,f1]
    have g:=h.gap
    have wt:Word times:=⟨by omega,by omega⟩
    have fin:∀ z:Fx,0≤z.a→z.a≤3*2^w.toNat→0≤z.e→z.e≤4*w+16→List.length (ws (val (fw z).xs))+List.length (ws (val (ws times)))≤17592186044415 ∧
        Tv.sv (Sv.agg [At.words true (ws (val (fw z).xs*val (ws times))),At.int .u64 (IntKind.wrap IntKind.u64 ((fw z).e*times))]) = .sv (.agg (fwL true (fw (timesF z times)))):=fun z a0 a1 e0 e1=>by
      have v1:val (fw z).xs=z.a:=val_ws a0
      have v2:val (ws times)=times:=val_ws (by omega)
      have m0:=Int.mul_nonneg e0 (show 0≤times by omega)
      have m1:=Int.mul_le_mul e1 t1 (by omega) (by omega)
      have v3:IntKind.u64.wrap ((fw z).e*times)=z.e*times:=wrap_w ⟨m0,by show z.e*times<_;omega⟩
      have b1:blen z.a≤w.toNat+2+1:=blen_pow_le (by rw [show w.toNat+2=w.toNat+1+1 by omega,Int.pow_succ,Int.pow_succ];omega)
      have l1:=ws_blen (k:=1073741824) a0 (by omega)
      have l2:=ws_blen (k:=1073741824) (n:=times) (by omega) (by have:=blen_pow_le (n:=times) (k:=6) (by omega);omega)
      rw [v1,v2,v3]
      exact ⟨by omega,rfl⟩
    refine ⟨⟨by omega,by omega⟩,⟨Int.le_refl _,by show (0:Int)≤_;omega,by omega,by omega⟩,⟨?_,rfl,rfl,qok_inv h⟩,⟨o0.w,o1.w⟩,br_intro (fun ht=>?_) fun ht=>?_⟩
    · show ws _=ws (val (ws _))
      exact congrArg ws (val_ws oP.1).symm
    · obtain ⟨l,e⟩:=fin (invS n w true) g.2.1 (by omega) g.2.2.2.2.1 g.2.2.2.1
      have es:invS n w true=subF (invR n w 0) (invR n w 1):=if_pos rfl
      rw [es] at l e
      refine ⟨⟨o0.w,o1.w,g.1⟩,wt,l,rfl,.inr ?_⟩
      rw [e,ht,es];rfl
    · obtain ⟨l,e⟩:=fin (invS n w false) g.2.2.2.2.2.1 g.2.2.2.2.2.2.1 g.2.2.2.2.2.2.2.2 g.2.2.2.2.2.2.2.1
      have es:invS n w false=addF (invR n w 0) (invR n w 1):=if_neg (by simp)
      rw [es] at l e
      refine ⟨wt,l,rfl,.inr ?_⟩
      rw [e,ht,es];rfl⟩
def sPi(fI:Int→Int→Bool→Int→Fx)(pr:Int→Int→Int→Prop):List (FuncId×Spec):=[(196,specK [.i .u64,.i .u64,.b,.i .i64] fun (n:Int) (times:Int) (turned:Bool) (w:Int)=>(some (pr n times w),fxT (fI n times turned w))),(191,seSub)]
theorem cPi_vc(w:Int)(fI:Int→Int→Bool→Int→Fx)(pr:Int→Int→Int→Prop)(Q:Tv→Prop):execF ⟨tys4,sPi fI pr⟩ (fun _=>none) 0 Tryz.f177 [.one (.int .i64 w)] Q=(pr 5 16 w∧pr 239 4 w∧(Fw.Ok (fw (fI 5 16 true w))∧Fw.Ok (fw (fI 239 4 true w))∧(Fw.f (fw (fI 239 4 true w))).a+(Fw.f (fw (fI 239 4 true w))).e≤(Fw.f (fw (fI 5 16 true w))).a)∧Q (Tv.sv (Sv.agg (fwL false (fw (subF (Fw.f (fw (fI 5 16 true w))) (Fw.f (fw (fI 239 4 true w))))))))):=by kernel_rfl
theorem pi_gap{w:Int}(w0:32≤w)(w1:w≤65536):(timesF (invS 239 w true) 4).a+(timesF (invS 239 w true) 4).e≤(timesF (invS 5 w true) 16).a:=by
  have h5:InvOk 5 w:=⟨by omega,by omega,w0,w1⟩
  have h2:InvOk 239 w:=⟨by omega,by omega,w0,w1⟩
  have r5:=invR_bd h5
  have r2:=invR_bd h2
  have b5:=h5.big
  have b2:=h2.big
  have q5:(invP 5 w 0).a=2^w.toNat/5:=rfl
  have q2:(invP 239 w 0).a=2^w.toNat/239:=rfl
  have e5:invS 5 w true=subF (invR 5 w 0) (invR 5 w 1):=if_pos rfl
  have e2:invS 239 w true=subF (invR 239 w 0) (invR 239 w 1):=if_pos rfl
  rw [e5,e2]
  show ((invR 239 w 0).a-((invR 239 w 1).a+(invR 239 w 1).e))*4+((invR 239 w 0).e+(invR 239 w 1).e)*4≤((invR 5 w 0).a-((invR 5 w 1).a+(invR 5 w 1).e))*16
  have k:20*(2^w.toNat/239)≤(2^w.toNat/5:Int):=by omega
  omega
theorem timesF_ok{n w t:Int}(h:InvOk n w)(t0:0≤t)(t1:t≤64):(timesF (invS n w true) t).Ok:=by
  have g:=h.gap
  have w0:=h.w0
  have w1:=h.w1
  have p:=two_pow_pos w.toNat
  have a0:=Int.mul_nonneg g.2.1 t0
  have a1:=Int.mul_le_mul g.2.2.1 t1 t0 (by omega)
  have e0:=Int.mul_nonneg g.2.2.2.2.1 t0
  have e1:=Int.mul_le_mul g.2.2.2.1 t1 t0 (by omega)
  have b:blen ((invS n w true).a*t)≤w.toNat+7+1:=blen_pow_le (by
    rw [show (2:Int)^(w.toNat+7)=2^w.toNat*128 by rw [Int.pow_add];rfl];omega)
  exact ⟨a0,by show blen ((invS n w true).a*t)≤_;omega,e0,by show (invS n w true).e*t≤_;omega⟩
def cPi:Spec:=specK [.i .i64] fun (w:Int)=>(some (32≤w∧w≤65536),fxT (piF w))
theorem sPi_ok:SpecsOk Tryz.prog (sPi (fun n times turned w=>timesF (invS n w turned) times) (fun n times w=>InvOk n w∧1≤times∧times≤64)):=⟨cInverse_ok,seSub_ok,trivial⟩
theorem cPi_ok:SpecOk Tryz.prog 177 cPi :=
  specKW_ok (envOk tys4_ok sPi_ok) mixed Tryz.func177 rfl (by decide) (by decide) fun (w:Int) _ hp=>⟨fun _=>none,0,by
    obtain ⟨w0,w1⟩:32≤w∧w≤65536:=hp
    have h5:InvOk 5 w:=⟨by omega,by omega,w0,w1⟩
    have h2:InvOk 239 w:=⟨by omega,by omega,w0,w1⟩
    have o5:=timesF_ok h5 (t:=16) (by omega) (by omega)
    have o2:=timesF_ok h2 (t:=4) (by omega) (by omega)
    show execF _ _ _ _ _ (fun t=>t=fxT (piF w)∨fgT t=fxT (piF w))
    refine (cPi_vc w (fun n times turned w=>timesF (invS n w turned) times) (fun n times w=>InvOk n w∧1≤times∧times≤64) _).mpr ?_
    have f5:(fw (timesF (invS 5 w true) 16)).f=timesF (invS 5 w true) 16:=fw_f o5.1
    have f2:(fw (timesF (invS 239 w true) 4)).f=timesF (invS 239 w true) 4:=fw_f o2.1
    rw [f5,f2]
    exact ⟨⟨h5,by omega,by omega⟩,⟨h2,by omega,by omega⟩,⟨o5.w,o2.w,pi_gap w0 w1⟩,.inl rfl⟩⟩
theorem at5_enc:Enc (sgnS true (atT 5)) (197395/1000000) (1974/10000):=by
  refine (altG_enc (r:=atT 5) (atT_nonneg (by omega)) (atT_fall (by omega)) (K:=3) (q:=12/11*atT 5 3) Rat.le_refl Rat.le_refl Rat.le_refl Rat.le_refl (by grind)).wide ?_ ?_<;>decide +kernel
theorem at239_enc:Enc (sgnS true (atT 239)) (4184/1000000) (41842/10000000):=by
  refine (altG_enc (r:=atT 239) (atT_nonneg (by omega)) (atT_fall (by omega)) (K:=2) (q:=12/11*atT 239 2) Rat.le_refl Rat.le_refl Rat.le_refl Rat.le_refl (by grind)).wide ?_ ?_<;>decide +kernel
theorem piS_enc:Enc piS (31415/10000) (31417/10000) :=
  ((at5_enc.scale (c:=16) (by decide)).add ((at239_enc.scale (c:=4) (by decide)).neg)).wide (by decide +kernel) (by decide +kernel)
theorem piF_e{w:Int}(w0:32≤w)(w1:w≤65536):0≤(piF w).a∧0≤(piF w).e∧(piF w).e≤80*w+320∧(piF w).a≤32*2^w.toNat:=by
  have h5:InvOk 5 w:=⟨by omega,by omega,w0,w1⟩
  have h2:InvOk 239 w:=⟨by omega,by omega,w0,w1⟩
  have g5:=h5.gap
  have g2:=h2.gap
  have gp:=pi_gap w0 w1
  have e2:(piF w).e=(invS 5 w true).e*16+(invS 239 w true).e*4:=rfl
  have e1:(piF w).a=(invS 5 w true).a*16-((invS 239 w true).a*4+(invS 239 w true).e*4):=rfl
  have e3:(timesF (invS 239 w true) 4).a+(timesF (invS 239 w true) 4).e=(invS 239 w true).a*4+(invS 239 w true).e*4:=rfl
  have e4:(timesF (invS 5 w true) 16).a=(invS 5 w true).a*16:=rfl
  omega
theorem refS_bd{n w:Int}(h:InvOk n w):0≤(refS n w).a∧(refS n w).a≤2*(refP n w 0).a∧0≤(refS n w).e∧(refS n w).e≤4*w+16∧(refS n w).a+(refS n w).e≤2*(refP n w 0).a+4*w+16∧(refP n w 0).a-4*w-16≤(refS n w).a+2*(refP n w 1).a:=by
  obtain ⟨k2,k3,k4⟩:=refK_spec h
  have a0:=smR_a h 0 (refK n w+1)
  have a1:=smR_a h 1 (refK n w+1)
  have p0:=(refP_in h (refK n w+1)).a0
  have e0:=smR_e h 0 (refK n w+1)
  have e1:=smR_e h 1 (refK n w+1)
  have ev:=smR_even h (refK n w)
  have od:=smR_odd h (refK n w)
  have hf:25*(refP n w 1).a≤(refP n w 0).a:=refP_half h 0
  have b1:=(refP_in h 1).a0
  have big:=h.big
  have w0:=h.w0
  have ep:(invP n w 0).a=(refP n w 0).a:=rfl
  have d1:(refS n w).a=(SmT (refT n w) 0 (refK n w+1)).a-((SmT (refT n w) 1 (refK n w+1)).a+((SmT (refT n w) 1 (refK n w+1)).e+4)):=rfl
  have d2:(refS n w).e=((SmT (refT n w) 0 (refK n w+1)).e+4)+((SmT (refT n w) 1 (refK n w+1)).e+4):=rfl
  omega
theorem piR_e{w:Int}(w0:32≤w)(w1:w≤65536):0≤(piR w).a∧0≤(piR w).e∧(piR w).e≤80*w+320∧(piR w).a≤32*2^w.toNat:=by
  have h5:InvOk 5 w:=⟨by omega,by omega,w0,w1⟩
  have h2:InvOk 239 w:=⟨by omega,by omega,w0,w1⟩
  have g5:=refS_bd h5
  have g2:=refS_bd h2
  have big5:=h5.big
  have hf5:25*(refP 5 w 1).a≤(refP 5 w 0).a:=refP_half h5 0
  have q5:(refP 5 w 0).a=2^w.toNat/5:=rfl
  have q2:(refP 239 w 0).a=2^w.toNat/239:=rfl
  have ep:(invP 5 w 0).a=(refP 5 w 0).a:=rfl
  have k:20*(2^w.toNat/239)≤(2^w.toNat/5:Int):=by omega
  have e2:(piR w).e=(refS 5 w).e*16+(refS 239 w).e*4:=rfl
  have e1:(piR w).a=(refS 5 w).a*16-((refS 239 w).a*4+(refS 239 w).e*4):=rfl
  omega
structure PiIv (d:Rat) (v:Vx):Prop where
  f:OneF v.lo∧OneF v.hi
  enc:Enc piS v.lo.rv v.hi.rv
  lo:3≤v.lo.rv
  hi:v.hi.rv≤4
  nar:v.hi.rv≤v.lo.rv+d
theorem PiIv.p{d:Rat}{v:Vx}(h:PiIv d v):v.P:=⟨h.f.1.p,h.f.2.p⟩
theorem PiIv.le{d:Rat}{v:Vx}(h:PiIv d v):v.lo.rv≤v.hi.rv:=h.enc.self
theorem ivF_rv{z:Fx}{w:Int}(a0:0≤z.a)(e0:0≤z.e):(ivF z w).lo.rv=(z.a:Rat)*p2 (-w)∧(ivF z w).hi.rv=((z.a+z.e:Int):Rat)*p2 (-w):=by
  unfold ivF
  exact ⟨by rw [rv_mkD a0];rfl,by rw [rv_mkD (by omega)];rfl⟩
theorem pow_e{w:Int}(w0:32≤w)(w1:w≤65536){e:Int}(h:e≤80*w+320):(e:Rat)*p2 (-w)≤p2 (23-w):=by
  have:(e:Rat)≤((2^23:Int):Rat):=cast_le.2 (by omega)
  have h2:=rmR this (rlL (p2_pos (-w)))
  have e23:((2^23:Int):Rat)=p2 23:=(p2_toNat (n:=23) (by omega)).symm
  rw [e23,←p2_add] at h2
  rwa [show (23:Int)-w=23 + -w by omega]
theorem pi_iv{w:Int}{z:Fx}(w0:32≤w)(w1:w≤65536)(h:EncF w z piS)(a0:0≤z.a)(e0:0≤z.e)(e1:z.e≤80*w+320):PiIv (p2 (23-w)) (ivF z w):=by
  obtain ⟨r1,r2⟩:=ivF_rv (w:=w) a0 e0
  have hp:=p2_le (show 23-w≤-9 by omega)
  have hn:=pow_e w0 w1 e1
  have hm:=h.meets piS_enc
  have hm2:=piS_enc.meets h
  have e9:p2 (-9)=1/512:=by decide +kernel
  have es:((z.a+z.e:Int):Rat)*p2 (-w)=(z.a:Rat)*p2 (-w)+(z.e:Rat)*p2 (-w):=by rw [rcA,Rat.add_mul]
  rw [es] at hm2 r2
  rw [e9] at hp
  have d1:(31415:Rat)/10000-1/512≥3:=by decide +kernel
  have d2:(31417:Rat)/10000+1/512≤4:=by decide +kernel
  refine ⟨⟨mkD_f a0,mkD_f (by omega)⟩,?_,?_,?_,?_⟩
  · rw [r1,r2,←es];exact h
  all_goals
    generalize (31415:Rat)/10000=c1 at *
    generalize (31417:Rat)/10000=c2 at *
    generalize (z.a:Rat)*p2 (-w)=A at *
    generalize (z.e:Rat)*p2 (-w)=B at *
    generalize p2 (23-w)=P at *
  · rw [r1];grind
  · rw [r2];grind
  · rw [r1,r2];grind
theorem PiIv.trim{d:Rat}{v:Vx}{p:Int}(h:PiIv d v)(hp2:2≤p):PiIv (d+p2 (4-p)) (trimV v p):=by
  have hp:1≤p:=by omega
  have b1:=(cutD_best (d:=v.lo) (p:=p) h.p.1 hp).1
  have b2:=(cutD_best (d:=v.hi) (p:=p) h.p.2 hp).2
  have l1:=h.lo
  have l2:=h.hi
  have l3:=h.nar
  have le:=h.le
  have hr1:Rp p ((4:Int):Rat):=⟨1,2,by decide +kernel,by
    have:=p2_le (show (1:Int)≤p by omega)
    rw [p2_one] at this
    have e1:((1:Int):Rat)=1:=rfl
    rw [e1];grind,by
    have:=p2_pos p
    have e1:((1:Int):Rat)=1:=rfl
    rw [e1];grind⟩
  have e4:((4:Int):Rat)=4:=rfl
  rw [e4] at hr1
  have r1:=b1.rel hp (by grind)
  have r2:=b2.rel hp (by grind)
  have ee:eps p=p2 (1-p):=rfl
  have e8:p2 (4-p)=8*p2 (1-p):=by
    rw [show (4:Int)-p=3+(1-p) by omega,p2_add]
    have:p2 3=8:=by decide +kernel
    rw [this]
  have ep:=eps_pos p
  rw [ee] at r1 r2 ep
  have m1:p2 (1-p)*v.lo.rv≤p2 (1-p)*4:=rmL (by grind) (rlL ep)
  have m2:p2 (1-p)*v.hi.rv≤p2 (1-p)*4:=rmL (by grind) (rlL ep)
  refine ⟨⟨cutD_f h.p.1,cutD_f h.p.2⟩,h.enc.wide b1.2.1 b2.2.1,?_,b2.2.2 4 hr1 l2,?_⟩
  · refine b1.2.2 3 ⟨3,0,by rw [p2_zero];decide +kernel,?_,?_⟩ l1
    · have:=p2_le hp2
      have e2:p2 2=4:=by decide +kernel
      have e3:((3:Int):Rat)=3:=rfl
      rw [e3];grind
    · have:=p2_pos p
      have e3:((3:Int):Rat)=3:=rfl
      rw [e3];grind
  · show (cutD v.hi p true).rv≤(cutD v.lo p false).rv+(d+p2 (4-p))
    rw [e8];grind
theorem PiIv.mono{d d':Rat}{v:Vx}(h:PiIv d v)(k:d≤d'):PiIv d' v:=⟨h.f,h.enc,h.lo,h.hi,by have:=h.nar;grind⟩
theorem fits_34{d:Dx}{p:Int}(h:OneF d)(hr:Rp p d.rv)(h3:3≤d.rv)(h4:d.rv≤4)(hp:p≤32768):d.fitsB=true:=by
  have e:=(rv_amt h.p).1 (by grind)
  have e1:p2 1=2:=p2_one
  have e2:p2 2=4:=by decide +kernel
  exact fits_rp h (A:=1) (B:=2) hr hp (fun _=>by rw [←e];grind) (by rw [←e];grind) (by omega) (by omega)
theorem PiIv.right{d:Rat}{v:Vx}(h:PiIv d v){p:Int}(r1:Rp p v.lo.rv)(r2:Rp p v.hi.rv)(hp:p≤32768):rightV v=true:=by
  have le:=h.le
  have f1:=fits_34 h.f.1 r1 h.lo (by have:=h.hi;grind) hp
  have f2:=fits_34 h.f.2 r2 (by have:=h.lo;grind) h.hi hp
  unfold rightV
  rw [f1,f2,decide_eq_true (cmpD_le.2 le)];rfl
def encPi(p:Int):Vx:=ivF (piF (p+64)) (p+64)
theorem encPi_iv{p:Int}(p0:8≤p)(p1:p≤65000):PiIv (p2 (-41-p)) (encPi p):=by
  obtain ⟨a0,e0,e1,_⟩:=piF_e (w:=p+64) (by omega) (by omega)
  have:=pi_iv (w:=p+64) (by omega) (by omega) (piF_enc (by omega) (by omega)) a0 e0 e1
  rwa [show (23:Int)-(p+64) = -41-p by omega] at this
theorem ivF_rp{z:Fx}{w p:Int}(a0:0≤z.a)(e0:0≤z.e)(h:(z.a+z.e:Int)<2^p.toNat)(hp:0≤p):Rp p (ivF z w).lo.rv∧Rp p (ivF z w).hi.rv:=by
  obtain ⟨r1,r2⟩:=ivF_rv (w:=w) a0 e0
  have q:=p2_pos p
  have c:∀ s:Int,0≤s→s<2^p.toNat→(s:Rat)<p2 p∧-(p2 p)<(s:Rat):=fun s s0 s1=>by
    have k0:=cast_le.2 s0
    have e0:((0:Int):Rat)=0:=rfl
    rw [e0] at k0
    rw [p2_toNat hp]
    have q':0<((2^p.toNat:Int):Rat):=by rw [←p2_toNat hp];exact q
    exact ⟨cast_lt.2 s1,by grind⟩
  exact ⟨⟨_,_,r1,c _ a0 (by omega)⟩,⟨_,_,r2,c _ (by omega) h⟩⟩
theorem encPi_right{p:Int}(p0:8≤p)(p1:p≤16384):rightV (encPi p)=true:=by
  obtain ⟨a0,e0,e1,a1⟩:=piF_e (w:=p+64) (by omega) (by omega)
  have hb:(piF (p+64)).a+(piF (p+64)).e<2^(p+64+6).toNat:=by
    obtain ⟨k,hk⟩:∃ k:Nat,p+64=k+32:=⟨(p+32).toNat,by omega⟩
    have pb:=pow_big k
    rw [show (p+64).toNat=k+32 by omega] at a1
    rw [show (p+64+6).toNat=k+32+6 by omega,Int.pow_add]
    have:(2:Int)^6=64:=by decide
    rw [this];omega
  obtain ⟨r1,r2⟩:=ivF_rp (w:=p+64) a0 e0 hb (by omega)
  exact (encPi_iv p0 (by omega)).right r1 r2 (by omega)
def constPi(p:Int):Vx:=trimV (encPi p) (p+8)
theorem constPi_iv{p:Int}(p0:8≤p)(p1:p≤65000):PiIv (p2 (-3-p)) (constPi p):=by
  refine ((encPi_iv p0 p1).trim (p:=p+8) (by omega)).mono ?_
  have h1:=p2_le (show -41-p≤-4-p by omega)
  have h2:p2 (-3-p)=2*p2 (-4-p):=by
    rw [show -3-p=1+(-4-p) by omega,p2_add,p2_one]
  rw [show (4:Int)-(p+8) = -4-p by omega,h2];grind
theorem constPi_fits{p:Int}(p0:8≤p)(p1:p≤16384):(constPi p).lo.fitsB=true∧(constPi p).hi.fitsB=true:=by
  have h:=constPi_iv p0 (by omega)
  have k:=encPi_iv p0 (show p≤65000 by omega)
  have r1:=(cutD_best (d:=(encPi p).lo) (p:=p+8) k.p.1 (by omega)).1.1
  have r2:=(cutD_best (d:=(encPi p).hi) (p:=p+8) k.p.2 (by omega)).2.1
  have le:=h.le
  exact ⟨fits_34 h.f.1 r1 h.lo (by have:=h.hi;grind) (by omega),fits_34 h.f.2 r2 (by have:=h.lo;grind) h.hi (by omega)⟩
theorem constPi_cut{p:Int}(p0:8≤p)(p1:p+8≤8192):ivCut (encPi p) (p+8)=(constPi p,0):=by
  have h1:leI 1 (p+8)=true:=decide_eq_true (by omega)
  have h2:leI (p+8) 8192=true:=decide_eq_true p1
  obtain ⟨f1,f2⟩:=constPi_fits p0 (show p≤16384 by omega)
  unfold ivCut whenR roomR
  rw [h1,h2,encPi_right p0 (by omega)]
  show (if (true && true && true)=true then if ((constPi p).lo.fitsB && (constPi p).hi.fitsB)=true then (constPi p,0) else (zeroIv,3) else (zeroIv,2))=_
  rw [f1,f2];rfl
def refPi(w:Int):Vx:=ivF (piR w) w
theorem refPi_iv{w:Int}(w0:32≤w)(w1:w≤65536):PiIv (p2 (23-w)) (refPi w):=by
  obtain ⟨a0,e0,e1,_⟩:=piR_e w0 w1
  exact pi_iv w0 w1 (piR_enc w0 w1) a0 e0 e1
def tyKn:TyRow:=⟨152,2,true,[.lit .nilFunc,.bool false],.struct [(0,1,false),(1,1,false)]⟩
def tyKn8:TyRow:=⟨153,16,true,[.lit .nilFunc,.bool false,.lit .nilFunc,.bool false,.lit .nilFunc,.bool false,.lit .nilFunc,.bool false,.lit .nilFunc,.bool false,.lit .nilFunc,.bool false,.lit .nilFunc,.bool false,.lit .nilFunc,.bool false],.array 8 2 true⟩
def tyFn:TyRow:=⟨150,1,false,[.lit .nilFunc],.func⟩
def tys5:List TyRow:=tyKn8 :: tyKn :: tyFn :: tys4
theorem tys5_ok:RowsOk Tryz.prog tys5:=⟨by kernel_rfl,by kernel_rfl,by kernel_rfl,tys4_ok⟩
def tabL:List At:=[.lit .nilFunc,.bool false,.fn 177 [],.bool false,.fn 178 [],.bool false,.fn 179 [],.bool false,.fn 180 [],.bool false,.fn 177 [],.bool true,.fn 178 [],.bool true,.fn 179 [],.bool true]
def cTable:Spec:=specK [] (none,.sv (.agg tabL))
theorem cTable_vc  (Q:Tv→Prop):execF ⟨tys5,[]⟩ (fun _=>none) 0 Tryz.f160 [] Q=(Q (Tv.sv (Sv.agg [At.lit Value.nilFunc,At.bool false,At.fn 177 [],At.bool false,At.fn 178 [],At.bool false,At.fn 179 [],At.bool false,At.fn 180 [],At.bool false,At.fn 177 [],At.bool true,At.fn 178 [],At.bool true,At.fn 179 [],At.bool true]))):=by kernel_rfl
theorem cTable_ok:SpecOk Tryz.prog 160 cTable :=
  specK_ok (envOk (S:=[]) tys5_ok trivial) mixed Tryz.func160 rfl (by decide) (by decide) fun _=>⟨fun _=>none,0,by
    show execF _ _ _ _ _ (fun t=>t = .sv (.agg tabL))
    exact (cTable_vc _).mpr rfl⟩
def sEc(tb:List At)(pr:Int→Prop)(fP:Int→Fx)(rf:Fx→Int→Vx):List (FuncId×Spec):=[(160,specK [] (none,.sv (.agg tb))),(177,specK [.i .i64] fun (w:Int)=>(some (pr w),fxT (fP w))),(161,specK [.fx,.i .i64] fun (x:Fw) (q:Int)=>(some (x.Ok∧0≤q∧q≤16777216),vT (rf x.f q)))]
theorem sEc_ok:SpecsOk Tryz.prog (sEc tabL (fun w=>32≤w∧w≤65536) piF ivF):=⟨cTable_ok,cPi_ok,seIval_ok,trivial⟩
theorem cEnc_vc(p:Int)(pr:Int→Prop)(fP:Int→Fx)(rf:Fx→Int→Vx)(Q:Tv→Prop):execF ⟨tys5,sEc tabL pr fP rf⟩ (fun _=>none) 0 Tryz.f135 [.one (.int .u8 1),.one (.int .i64 p)] Q=(inR (p+64)∧((0:Int)≤1∧(1:Int)<(↑(8:Nat):Int))∧pr (p+64)∧(Fw.Ok (fw (fP (p+64)))∧(0:Int)≤p+64∧p+64≤16777216)∧Q (Tv.sv (Sv.agg (ivL true (rf (Fw.f (fw (fP (p+64)))) (p+64)))))):=by kernel_rfl
theorem piF_ok{w:Int}(w0:32≤w)(w1:w≤65536):(piF w).Ok:=by
  obtain ⟨a0,e0,e1,a1⟩:=piF_e w0 w1
  have b:blen (piF w).a≤w.toNat+5+1:=blen_pow_le (by
    rw [show (2:Int)^(w.toNat+5)=2^w.toNat*32 by rw [Int.pow_add];rfl];omega)
  exact ⟨a0,by omega,e0,by omega⟩
def cEnc:Spec:=specK [.i .u8,.i .i64] fun (k:Int) (p:Int)=>(some (k=1∧8≤p∧p≤65000),vT (encPi p))
theorem cEnc_ok:SpecOk Tryz.prog 135 cEnc :=
  specK_ok (envOk tys5_ok sEc_ok) mixed Tryz.func135 rfl (by decide) (by decide) fun (k:Int) _ (p:Int) _ hp=>⟨fun _=>none,0,by
    obtain ⟨rfl,p0,p1⟩:k=1∧8≤p∧p≤65000:=hp
    show execF _ _ _ _ _ (fun t=>t=vT (encPi p))
    have o:=piF_ok (w:=p+64) (by omega) (by omega)
    refine (cEnc_vc p (fun w=>32≤w∧w≤65536) piF ivF _).mpr ⟨⟨by omega,by omega⟩,⟨by omega,by omega⟩,⟨by omega,by omega⟩,⟨o.w,by omega,by omega⟩,?_⟩
    rw [fw_f o.1];rfl⟩
def sCo(pr:Int→Prop)(en:Int→Vx)(cu:Vx→Int→Vx×Int):List (FuncId×Spec):=[(135,specK [.i .u8,.i .i64] fun (k:Int) (p:Int)=>(some (k=1∧pr p),vT (en p))),(41,rTrim),(136,specK [.v,.i .i64] fun (v:Vx) (p:Int)=>(none,reT (cu v p)))]
theorem cIs_vc(k:Int)(Q:Tv→Prop):execF ⟨tys5,[]⟩ (fun _=>none) 0 Tryz.f134 [.one (.int .u8 k)] Q=(br (ltI 0 k) (Q (bT (ltI k 8))) (Q (bT false))):=by kernel_rfl
def cIs:Spec:=specK [.i .u8] fun (k:Int)=>(none,bT (ltI 0 k && ltI k 8))
theorem cIs_ok:SpecOk Tryz.prog 134 cIs :=
  specK_ok (envOk (S:=[]) tys5_ok trivial) mixed Tryz.func134 rfl (by decide) (by decide) fun (k:Int) _ _=>⟨fun _=>none,0,by
    show execF _ _ _ _ _ (fun t=>t=bT (ltI 0 k && ltI k 8))
    refine (cIs_vc k _).mpr (br_intro (fun h=>?_) fun h=>?_)
    · rw [h];rfl
    · rw [h];rfl⟩
theorem cConst_vc(p:Int)(pr:Int→Prop)(en:Int→Vx)(cu:Vx→Int→Vx×Int)(Q:Tv→Prop):execF ⟨tys5,(134,cIs) :: sCo pr en cu⟩ (fun _=>none) 0 Tryz.f106 [.one (.int .u8 1),.one (.int .i64 p)] Q=(br (ltI p 8) (Q (Tv.tup [Sv.agg [At.bool false,At.words true [],At.int .i64 0,At.bool false,At.words true [],At.int .i64 0],Sv.one (At.int .i64 2)])) (br (ltI 8192 p) (Q (Tv.tup [Sv.agg [At.bool false,At.words true [],At.int .i64 0,At.bool false,At.words true [],At.int .i64 0],Sv.one (At.int .i64 2)])) (((1:Int)=(1:Int)∧pr p)∧inR (p+8)∧br (ltI 8192 (p+8)) (inR (p+8)∧(Vx.Sm 34359738368 (en p)∧(0:Int)≤p+8∧p+8≤1099511627776)∧Q (Tv.tup [Sv.agg (ivL true (trimV (en p) (p+8))),Sv.one (At.int .i64 0)])) (inR (p+8)∧Q (Tv.tup [Sv.agg (ivL false (cu (en p) (p+8)).fst),Sv.one (At.int .i64 (cu (en p) (p+8)).snd)]))))):=by kernel_rfl
def constR(p:Int):Vx×Int:=if 8≤p∧p≤8192 then (constPi p,0) else (zeroIv,2)
def cConst:Spec:=specK [.i .u8,.i .i64] fun (k:Int) (p:Int)=>(some (k=1),reT (constR p))
theorem sCo_ok:SpecsOk Tryz.prog ((134,cIs) :: sCo (fun p=>8≤p∧p≤65000) encPi ivCut):=⟨cIs_ok,cEnc_ok,rTrim_ok,vXCut_ok,trivial⟩
theorem cConst_ok:SpecOk Tryz.prog 106 cConst :=
  specKW_ok (envOk tys5_ok sCo_ok) mixed Tryz.func106 rfl (by decide) (by decide) fun (k:Int) _ (p:Int) _ hp=>⟨fun _=>none,0,by
    obtain rfl:k=1:=hp
    show execF _ _ _ _ _ (fun t=>t=reT (constR p)∨fgT t=reT (constR p))
    refine (cConst_vc p (fun p=>8≤p∧p≤65000) encPi ivCut _).mpr (br_intro (fun h1=>.inr ?_) fun h1=>br_intro (fun h2=>.inr ?_) fun h2=>?_)
    · rw [constR,if_neg (by have:=ltI_true.1 h1;omega)];rfl
    · rw [constR,if_neg (by have:=ltI_true.1 h2;omega)];rfl
    · have h1:=ltI_false.1 h1
      have h2:=ltI_false.1 h2
      refine ⟨⟨rfl,by omega,by omega⟩,⟨by omega,by omega⟩,br_intro (fun h3=>⟨⟨by omega,by omega⟩,⟨(right_sm (encPi_right (p:=p) (by omega) (by omega))).mono (by omega),by omega,by omega⟩,.inr ?_⟩) fun h3=>⟨⟨by omega,by omega⟩,.inl ?_⟩⟩
      · rw [constR,if_pos ⟨by omega,by omega⟩];rfl
      · rw [constR,if_pos ⟨by omega,by omega⟩,constPi_cut (by omega) (by have:=ltI_false.1 h3;omega)];rfl⟩
structure HfIv (d:Rat) (h:Vx):Prop where
  p:h.P
  enc:Enc piS (2*h.lo.rv) (2*h.hi.rv)
  lo:3/2≤h.lo.rv
  hi:h.hi.rv≤2
  nar:h.hi.rv≤h.lo.rv+d
theorem pointV_in{x:Dx}(hx:0≤x.m):InV (pointV x) x.rv:=⟨by show (oneD x).rv≤_;rw [rv_one hx];exact Rat.le_refl,by show _≤(oneD x).rv;rw [rv_one hx];exact Rat.le_refl⟩
theorem pointV_rv{x:Dx}(hx:0≤x.m):(pointV x).lo.rv=x.rv∧(pointV x).hi.rv=x.rv:=⟨rv_one hx,rv_one hx⟩
section
variable {d:Rat} {h:Vx} (k:HfIv d h) {x:Dx} (hx:0≤x.m) {w:Int} (hw:1≤w)
include k hx hw
end
theorem whole_sm{z:Dx}(f:OneF z)(e0:0≤z.e){K:Nat}(h:(z.m:Rat)*p2 z.e<p2 K):z.Sm K:=by
  have m0:=f.p
  by_cases hz:z.m=0
  · rw [f.zero hz];exact ⟨by show blen (val [])≤K;rw [show val []=0 from rfl];exact Nat.zero_le _,by show -(K:Int)≤0;omega,by show (0:Int)≤K;omega⟩
  · have g:=amt_ge (m:=z.m) (e:=z.e) (by omega)
    have:=p2_lt_iff.1 (show p2 (z.e+(blen z.m:Int)-1)<p2 K by grind)
    have b:=blen_pos (show 0<z.m by omega)
    exact ⟨by omega,by omega,by omega⟩
structure Dx.Bd (L T:Int) (d:Dx):Prop where
  l0:0≤L
  t0:0≤T
  lo:-L≤d.e
  hi:d.e+blen d.m≤T
theorem Dx.Bd.mono{L T L' T':Int}{d:Dx}(h:d.Bd L T)(hl:L≤L')(ht:T≤T'):d.Bd L' T':=by
  obtain ⟨a,b,c,e⟩:=h
  exact ⟨by omega,by omega,by omega,by omega⟩
theorem Dx.Bd.sm{L T:Int}{d:Dx}(h:d.Bd L T){N:Nat}(hn:L+T≤N):d.Sm N:=by
  obtain ⟨a,b,c,e⟩:=h
  exact ⟨by omega,by omega,by omega⟩
theorem mkD_bd{neg:Bool}{m e L T:Int}(h:0≤m)(l0:0≤L)(t0:0≤T)(hl:-L≤e)(ht:e+blen m≤T):(mkD neg m e).Bd L T:=by
  by_cases hz:m=0
  · subst hz;rw [mkD_zero]
    exact ⟨l0,t0,by show -L≤0;omega,by show (0:Int)+blen (val [])≤T;rw [show blen (val [])=0 from rfl];omega⟩
  · have hp:0<m:=by omega
    have hm:=mkD_m (neg:=neg) (e:=e) h
    have he:(mkD neg m e).e=e+tz m:=by unfold mkD;rw [if_neg hz]
    obtain ⟨q,hq,hq2⟩:=tz_spec hp
    have p:=two_pow_pos (tz m)
    generalize tz m=t at *
    have hdiv:m/2^t=2*q+1:=by rw [hq2,Int.mul_ediv_cancel_left _ (by omega)]
    have hb:blen m=blen (2*q+1)+t:=by
      rw [hq2,Int.mul_comm]
      exact blen_mul_pow (by omega) _
    refine ⟨l0,t0,by rw [he];omega,?_⟩
    rw [he,hm,hdiv];omega
theorem mkS_bd{s e L T:Int}(l0:0≤L)(t0:0≤T)(hl:-L≤e)(ht:e+blen (s.natAbs:Int)≤T):(mkS s e).Bd L T:=mkD_bd (by omega) l0 t0 hl ht
theorem Dx.Bd.one{L T:Int}{d:Dx}(hd:0≤d.m)(h:d.Bd L T):(oneD d).Bd L T:=mkD_bd hd h.l0 h.t0 h.lo h.hi
theorem Dx.Bd.neg{L T:Int}{d:Dx}(hd:0≤d.m)(h:d.Bd L T):(negD d).Bd L T:=mkD_bd hd h.l0 h.t0 h.lo h.hi
theorem Dx.Bd.shift{L T n L' T':Int}{d:Dx}(hd:0≤d.m)(h:d.Bd L T)(l0:0≤L')(t0:0≤T')(hl:L-n≤L')(ht:T+n≤T'):(shiftD d n).Bd L' T' :=
  mkD_bd hd l0 t0 (by have:=h.lo;omega) (by have:=h.hi;omega)
theorem Dx.Bd.times{L T L' T':Int}{a b:Dx}(ha:0≤a.m)(hb:0≤b.m)(h:a.Bd L T)(k:b.Bd L' T'):(timesD a b).Bd (L+L') (T+T'):=by
  have:=blen_mul ha hb
  obtain ⟨a1,a2,a3,a4⟩:=h
  obtain ⟨b1,b2,b3,b4⟩:=k
  exact mkD_bd (Int.mul_nonneg ha hb) (by omega) (by omega) (by omega) (by omega)
theorem blen_scl{d:Dx}(hd:0≤d.m)(k:Nat):(blen ((d.sm*2^k).natAbs:Int):Int)≤blen d.m+k:=by
  rw [sm_abs hd]
  by_cases h:d.m=0
  · rw [h,Int.zero_mul];show ((0:Nat):Int)≤_;omega
  · rw [blen_mul_pow (by omega)];omega
theorem Dx.Bd.plusX{L T:Int}{a b:Dx}(ha:0≤a.m)(hb:0≤b.m)(h:a.Bd L T)(k:b.Bd L T):(plusX a b).Bd L (T+1):=by
  obtain ⟨l0,t0,a1,a2⟩:=h
  obtain ⟨_,_,b1,b2⟩:=k
  unfold Go.Proofs.YtcgjbmbdkpapdaaGreatDoor.plusX
  split
  · exact ⟨l0,by omega,b1,by omega⟩
  · split
    · exact ⟨l0,by omega,a1,by omega⟩
    · have c1:=blen_scl ha (a.e-min a.e b.e).toNat
      have c2:=blen_scl hb (b.e-min a.e b.e).toNat
      obtain ⟨N,hN⟩:∃ N:Nat,(N:Int)=max (T-min a.e b.e) 0:=⟨(max (T-min a.e b.e) 0).toNat,by omega⟩
      have d:=blen_natAbs_add (X:=a.sm*2^(a.e-min a.e b.e).toNat) (Y:=b.sm*2^(b.e-min a.e b.e).toNat) (N:=N) (by omega) (by omega)
      refine mkS_bd l0 (by omega) (by omega) ?_
      omega
theorem Dx.Bd.plus{L T:Int}{a b:Dx}(ha:0≤a.m)(hb:0≤b.m)(h:a.Bd L T)(k:b.Bd L T):(plusD a b).Bd L (T+1):=Dx.Bd.plusX oneD_p oneD_p (h.one ha) (k.one hb)
theorem Dx.Bd.less{L T:Int}{a b:Dx}(ha:0≤a.m)(hb:0≤b.m)(h:a.Bd L T)(k:b.Bd L T):(lessD a b).Bd L (T+1):=h.plus ha negD_p (k.neg hb)
theorem Dx.Bd.cut{L T:Int}{d:Dx}{p:Int}{up:Bool}(hd:0≤d.m)(hp:0≤p)(h:d.Bd L T):(cutD d p up).Bd L (T+1):=by
  have m0:=oneD_p (d:=d)
  obtain ⟨l0,t0,a1,a2⟩:=h.one hd
  unfold cutD cutX
  split
  · exact ⟨l0,by omega,a1,by omega⟩
  · rename_i hn
    have p0:=two_pow_pos ((blen (oneD d).m:Int)-p).toNat
    have q0:0≤(oneD d).m/2^((blen (oneD d).m:Int)-p).toNat:=Int.ediv_nonneg m0 (by omega)
    have hb:(blen ((oneD d).m/2^((blen (oneD d).m:Int)-p).toNat+if up == (oneD d).neg then 0 else 1):Int)≤max (blen (oneD d).m-((blen (oneD d).m:Int)-p)) 0+1:=by
      obtain ⟨N,hN⟩:∃ N:Nat,(N:Int)=max (blen (oneD d).m-((blen (oneD d).m:Int)-p)) 0:=⟨(max (blen (oneD d).m-((blen (oneD d).m:Int)-p)) 0).toNat,by omega⟩
      have q1:(oneD d).m/2^((blen (oneD d).m:Int)-p).toNat<2^N:=by
        refine Int.ediv_lt_of_lt_mul p0 ?_
        rw [←Int.pow_add]
        exact Int.lt_of_lt_of_le (blen_lt _) (two_pow_le (by omega))
      have:blen ((oneD d).m/2^((blen (oneD d).m:Int)-p).toNat+if up == (oneD d).neg then 0 else 1)≤N+1:=blen_le (by
        rw [Int.pow_succ];have:=two_pow_pos N;split<;>omega)
      omega
    refine mkD_bd (by split<;>omega) l0 (by omega) (by omega) ?_
    omega
def Vx.Bd(L T:Int)(v:Vx):Prop:=v.lo.Bd L T∧v.hi.Bd L T
theorem Vx.Bd.sm{L T:Int}{v:Vx}(h:v.Bd L T){N:Nat}(hn:L+T≤N):v.Sm N:=⟨h.1.sm hn,h.2.sm hn⟩
theorem Vx.Bd.trim{L T:Int}{v:Vx}{p:Int}(hv:v.P)(hp:0≤p)(h:v.Bd L T):(trimV v p).Bd L (T+1):=⟨h.1.cut hv.1 hp,h.2.cut hv.2 hp⟩
theorem Dx.Bd.point{L T:Int}{d:Dx}(hd:0≤d.m)(h:d.Bd L T):(pointV d).Bd L T:=⟨h.one hd,h.one hd⟩
theorem spanS_bd{L T:Int}{v:Vx}{d:Dx}(h:v.Bd L T)(k:d.Bd L T):(spanS v d).Bd L T:=by
  unfold spanS
  constructor
  · show (if cmpD d v.lo<0 then d else v.lo).Bd L T
    split
    · exact k
    · exact h.1
  · show (if 0<cmpD d v.hi then d else v.hi).Bd L T
    split
    · exact k
    · exact h.2
theorem Vx.Bd.times{L T L' T':Int}{v u:Vx}{p:Int}(hv:v.P)(hu:u.P)(hp:0≤p)(h:v.Bd L T)(k:u.Bd L' T'):(timesV v u p).Bd (L+L') (T+T' + 1) :=
  Vx.Bd.trim (prodV_p v u) hp (spanS_bd (spanS_bd (spanS_bd ⟨h.1.times hv.1 hu.1 k.1,h.1.times hv.1 hu.1 k.1⟩ (h.1.times hv.1 hu.2 k.2)) (h.2.times hv.2 hu.1 k.1)) (h.2.times hv.2 hu.2 k.2))
theorem fits_bd{d:Dx}(h:d.fitsB=true):d.Bd 32768 98304:=by
  have e:=fits_e h
  have:=(fits_sm h).1
  exact ⟨by omega,by omega,by omega,by omega⟩
def tys6:List TyRow:=tys5
theorem tys6_ok:RowsOk Tryz.prog tys6:=tys5_ok
def sRed:List (FuncId×Spec):=[(99,rNear),(102,rBy4),(105,rInt)] ++ sRaw8
theorem sRed_ok:SpecsOk Tryz.prog sRed:=⟨rNear_ok,rBy4_ok,rInt_ok,sRaw8_ok⟩
theorem blen32{a w:Int}(w0:0≤w)(h:a<64*2^w.toNat):(blen a:Int)≤w+6:=by
  have:blen a≤w.toNat+6:=blen_le (by rw [Int.pow_add];have:(2:Int)^6=64:=by decide
                                     rw [this];omega)
  omega
theorem pow_ge{w:Int}(w0:64≤w)(w1:w≤65536):80*w+320≤2^w.toNat:=by
  obtain ⟨k,hk⟩:∃ k:Nat,w=k+32:=⟨(w-32).toNat,by omega⟩
  have pb:=pow_big k
  rw [show w.toNat=k+32 by omega];omega
theorem ivF_bd{z:Fx}{w:Int}(w0:64≤w)(w1:w≤65536)(a0:0≤z.a)(e0:0≤z.e)(e1:z.e≤80*w+320)(a1:z.a≤32*2^w.toNat):(ivF z w).Bd w 7:=by
  have g:=pow_ge w0 w1
  have b1:=blen32 (a:=z.a) (w:=w) (by omega) (by omega)
  have b2:=blen32 (a:=z.a+z.e) (w:=w) (by omega) (by omega)
  exact ⟨mkD_bd a0 (by omega) (by omega) (by omega) (by omega),mkD_bd (by omega) (by omega) (by omega) (by omega) (by omega)⟩
theorem constPi_bd{w:Int}(w0:8≤w)(w1:w≤16384):(constPi w).Bd (w+64) 8:=by
  obtain ⟨a0,e0,e1,a1⟩:=piF_e (w:=w+64) (by omega) (by omega)
  exact Vx.Bd.trim (encPi_iv w0 (by omega)).p (by omega) (ivF_bd (by omega) (by omega) a0 e0 e1 a1)
def topD(x:Dx):Int:=x.e+blen x.m-1
def zD0:Dx:=⟨false,[],0⟩
def turT(r:Int×Dx×Int):Tv:=.tup [.one (.int .i64 r.1),.agg (dyL false r.2.1),.one (.int .i64 r.2.2)]
def turN(y:Dx):Dx:=nearD (shiftD y 1)
def turX(y:Dx):Dx:=lessD y (shiftD (turN y) (-1))
def turR(x:Dx):Int×Dx×Int:=if x.fitsB=true then (if (oneD x).fitsB=true∧(turX (oneD x)).fitsB=true then (by4I (turN (oneD x)),turX (oneD x),0) else (0,zD0,3)) else (0,zD0,2)
theorem qTurns_vc(x:Dx)(Q:Tv→Prop):execF ⟨tys6,sRed⟩ (fun _=>none) 0 Tryz.f72 [.agg (dyL false x)] Q=(br (!Dx.fitsB x) (Q (Tv.tup [Sv.one (At.int .i64 0),Sv.agg [At.bool false,At.words true [],At.int .i64 0],Sv.one (At.int .i64 2)])) (((-4611686018427387904:Int)≤x.e∧x.e≤4611686018427387904)∧((-2305843009213693952:Int)≤(oneD x).e∧(oneD x).e≤2305843009213693952∧(-2305843009213693952:Int)≤1∧(1:Int)≤2305843009213693952)∧Dx.Sm 268435456 (shiftD (oneD x) 1)∧((-2305843009213693952:Int)≤(nearD (shiftD (oneD x) 1)).e∧(nearD (shiftD (oneD x) 1)).e≤2305843009213693952∧(-2305843009213693952:Int)≤(-1)∧(-1:Int)≤2305843009213693952)∧(Dx.Sm 34359738368 (oneD x)∧Dx.Sm 34359738368 (shiftD (nearD (shiftD (oneD x) 1)) (-1)))∧true=true∧br (!Dx.fitsB (oneD x)) (Q (Tv.tup [Sv.one (At.int .i64 0),Sv.agg [At.bool false,At.words true [],At.int .i64 0],Sv.one (At.int .i64 3)])) (br (!Dx.fitsB (lessD (oneD x) (shiftD (nearD (shiftD (oneD x) 1)) (-1)))) (Q (Tv.tup [Sv.one (At.int .i64 0),Sv.agg [At.bool false,At.words true [],At.int .i64 0],Sv.one (At.int .i64 3)])) ((OneF (nearD (shiftD (oneD x) 1))∧(0:Int)≤(nearD (shiftD (oneD x) 1)).e∧(nearD (shiftD (oneD x) 1)).e≤4611686018427387904)∧true=true∧Q (Tv.tup [Sv.one (At.int .i64 (by4I (nearD (shiftD (oneD x) 1)))),Sv.agg (dyL true (lessD (oneD x) (shiftD (nearD (shiftD (oneD x) 1)) (-1)))),Sv.one (At.int .i64 0)]))))):=by kernel_rfl
def qTurns:Spec:=specK [.d] fun (x:Dx)=>(none,turT (turR x))
theorem shift_bd{L T:Int}{d:Dx}(hd:0≤d.m)(h:d.Bd L T):(shiftD d 1).Bd L (T+1):=h.shift hd h.l0 (by have:=h.t0;omega) (by omega) (by omega)
theorem shift_bd'{L T:Int}{d:Dx}(hd:0≤d.m)(h:d.Bd L T):(shiftD d (-1)).Bd (L+1) T:=h.shift hd (by have:=h.l0;omega) h.t0 (by omega) (by omega)
theorem floor_bd{L T:Int}{d:Dx}(hd:0≤d.m)(h:d.Bd L T):(floorD d).Bd L (T+1):=by
  obtain ⟨l0,t0,a1,a2⟩:=h.one hd
  have m0:=oneD_p (d:=d)
  unfold floorD;split
  · exact ⟨l0,by omega,a1,by omega⟩
  · rename_i hn
    have p0:=two_pow_pos (-(oneD d).e).toNat
    have q0:0≤(oneD d).m/2^(-(oneD d).e).toNat:=Int.ediv_nonneg m0 (by omega)
    obtain ⟨N,hN⟩:∃ N:Nat,(N:Int)=T:=⟨T.toNat,by omega⟩
    have q1:(oneD d).m/2^(-(oneD d).e).toNat<2^N:=by
      refine Int.ediv_lt_of_lt_mul p0 ?_
      rw [←Int.pow_add]
      exact Int.lt_of_lt_of_le (blen_lt _) (two_pow_le (by omega))
    have hb:blen ((oneD d).m/2^(-(oneD d).e).toNat+if (lostB (oneD d).m (-(oneD d).e).toNat && (oneD d).neg)=true then 1 else 0)≤N+1:=blen_le (by
      rw [Int.pow_succ];have:=two_pow_pos N;split<;>omega)
    exact mkD_bd (by split<;>omega) l0 (by omega) (by omega) (by omega)
theorem near_bd{L T:Int}{d:Dx}(hd:0≤d.m)(h:d.Bd L T):(nearD d).Bd (L+1) (T+4):=by
  have hh:halfD.Bd (L+1) (T+1):=⟨by have:=h.l0;omega,by have:=h.t0;omega,by show -(L+1)≤-1;have:=h.l0;omega,by rw [halfD_m];have:=h.t0;show -1+((blen 1:Nat):Int)≤T+1;rw [show blen 1=1 by decide];omega⟩
  have a:(plusD d halfD).Bd (L+1) (T+1+1):=(h.mono (show L≤L+1 by omega) (show T≤T+1 by omega)).plus hd (by decide) hh
  have b:=floor_bd plusD_p a
  have c:(mkS 1 0).Bd (L+1) (T+1+1+1):=mkS_bd (by have:=h.l0;omega) (by have:=h.t0;omega) (by have:=h.l0;omega) (by have:=h.t0;show 0+((blen 1:Nat):Int)≤_;rw [show blen 1=1 by decide];omega)
  unfold nearD;split
  · exact (b.less floorD_p mkS_p c).mono (by omega) (by omega)
  · exact b.mono (by omega) (by omega)
theorem turX_bd{y:Dx}(hy:0≤y.m)(h:y.Bd 32768 98304):(turN y).Bd 32769 98309∧(turX y).Bd 32770 98310:=by
  have n:=near_bd shiftD_p (shift_bd hy h)
  exact ⟨n.mono (by omega) (by omega),((h.mono (by omega) (by omega)).less hy shiftD_p ((shift_bd' nearD_p n).mono (L':=32770) (T':=98309) (by omega) (by omega))).mono (by omega) (by omega)⟩
theorem qTurns_ok:SpecOk Tryz.prog 72 qTurns :=
  specKW_ok (envOk tys6_ok sRed_ok) mixed Tryz.func72 rfl (by decide) (by decide) fun (x:Dx) hxw _=>⟨fun _=>none,0,by
    have hx:=Dx.Wf.m0 hxw
    show execF _ _ _ _ _ (fun t=>t=turT (turR x)∨fgT t=turT (turR x))
    refine (qTurns_vc x _).mpr (br_intro (fun h=>.inr ?_) fun h=>?_)
    · rw [turR,if_neg (by rw [not_true h];simp)];rfl
    have h:=not_false' h
    have bx:=(fits_bd h).one hx
    have xe:=fits_e h
    obtain ⟨bn,br'⟩:=turX_bd oneD_p bx
    rw [turR,if_pos h]
    have b1:=bx.lo
    have b2:=bx.hi
    have n0:0≤(turN (oneD x)).e:=nearD_e
    have n1:=bn.hi
    refine ⟨⟨by omega,by omega⟩,⟨by omega,by omega,by omega,by omega⟩,(shift_bd oneD_p bx).sm (by omega),⟨show _≤(turN (oneD x)).e by omega,show (turN (oneD x)).e≤_ by omega,by omega,by omega⟩,⟨bx.sm (by omega),(shift_bd' nearD_p bn).sm (by omega)⟩,rfl,br_intro (fun h1=>.inr ?_) fun h1=>br_intro (fun h2=>.inr ?_) fun h2=>⟨⟨nearD_f,n0,show (turN (oneD x)).e≤_ by omega⟩,rfl,.inr ?_⟩⟩
    · rw [if_neg (by rw [not_true h1];simp)];rfl
    · rw [if_neg (by rw [show (turX (oneD x)).fitsB=false from not_true h2];simp)];rfl
    · rw [if_pos ⟨not_false' h1,not_false' h2⟩];rfl⟩
def niTimes:Spec:=specK [.fx,.i .u64] fun (x:Fw) (n:Int)=>(some (x.Ok∧x.e≤549755813888∧0≤n∧n≤64),fxT (timesF x.f n))
theorem niTimes_vc(x:Fw)(n:Int)(Q:Tv→Prop):execF ⟨tys3,sNi⟩ (fun _=>none) 0 Tryz.f156 [.agg (fwL false x),.one (.int .u64 n)] Q=(Word n∧List.length (ws (val x.xs))+List.length (ws (val (ws n)))≤17592186044414∧true=true∧Q (Tv.sv (Sv.agg [At.words true (ws (val x.xs*val (ws n))),At.int .u64 (IntKind.wrap IntKind.u64 (x.e*n))]))):=by kernel_rfl
theorem niTimes_ok:SpecOk Tryz.prog 156 niTimes :=
  specKW_ok (envOk tys3_ok sNi_ok) mixed Tryz.func156 rfl (by decide) (by decide) fun (x:Fw) hx (n:Int) _ hp=>⟨fun _=>none,0,by
    obtain ⟨⟨l,e0,e1⟩,e2,n0,n1⟩:x.Ok∧x.e≤549755813888∧0≤n∧n≤64:=hp
    show execF _ _ _ _ _ (fun t=>t=fxT (timesF x.f n)∨fgT t=fxT (timesF x.f n))
    have w0:Word n:=⟨by omega,by omega⟩
    refine (niTimes_vc x n _).mpr ⟨w0,?_,rfl,.inr ?_⟩
    · rw [val_ws n0]
      have l1:=ws_len_blen (val_nonneg hx.1)
      have l3:blen (val x.xs)≤64*x.xs.length:=blen_le (by have:=val_lt hx.1;rwa [wpow_eq] at this)
      have l2:=ws_blen (k:=1073741824) n0 (by have:=blen_pow_le (n:=n) (k:=6) (by omega);omega)
      omega
    · rw [val_ws n0]
      have m0:=Int.mul_nonneg e0 n0
      have m1:=Int.mul_le_mul e2 n1 n0 (by omega)
      rw [wrap_w ⟨m0,by omega⟩];rfl⟩
def niK:LKeep:=⟨[0,1,6,7,8,9,10],[(0,2),(5,2),(9,2),(10,2)],11⟩
def niSt(n:Int)(b:Bool)(P S0 S1:Nat→Fx)(a:Nat×Bool):List (Nat×Tv)×List (Nat×Nat×At) :=
  ([(0,.sv (.one (.int .u64 n))),(1,bT b),(6,.sv (.one (.ptr 0 0))),(7,.sv (.one (.ptr 5 0))),(8,.sv (.one (.ptr 9 0))),(9,.sv (.one (.ptr 10 0))),(10,.sv (.one (.int .u64 (2*(a.1:Nat)+3))))],
   [(0,0,.words true []),(0,1,.int .u64 0)] ++ (clX 5 0 false (fw (P a.1)) ++ (clX 9 0 false (fw (S0 (a.1+1))) ++ clX 10 0 a.2 (fw (S1 (a.1+1))))))
def niInvL(n:Int)(b:Bool)(P S0 S1:Nat→Fx)(K:Nat):Nat→Option LInv:=invAt 4 (.rel niK (Nat×Bool) (niSt n b P S0 S1) (fun a=>a.1≤K) (fun a=>K-a.1))
theorem niInv_vc(n q:Int)(b:Bool)(P S0 S1:Nat→Fx)(K:Nat)(Q:Tv→Prop):execF ⟨tys3,sNi⟩ (niInvL n b P S0 S1 K) 0 Tryz.f157 [.one (.int .u64 n),.one (.bool b),.one (.int .i64 q)] Q=(((0:Int)≤q∧q≤16777216)∧((0:Int)≤(fw (Fx.mk ((2:Int)^Int.toNat q) 0)).e∧(fw (Fx.mk ((2:Int)^Int.toNat q) 0)).e≤1099511627776∧(0:Int)<n∧n≤4294967296)∧true=true∧(∃ (a:Nat×Bool),a.fst≤K∧Sg.mk [(0,Tv.sv (Sv.one (At.int .u64 n))),(1,bT b),(6,Tv.sv (Sv.one (At.ptr 0 0))),(7,Tv.sv (Sv.one (At.ptr ((1:Nat)+4) 0))),(8,Tv.sv (Sv.one (At.ptr ((7:Nat)+2) 0))),(9,Tv.sv (Sv.one (At.ptr ((7:Nat)+3) 0))),(10,Tv.sv (Sv.one (At.int .u64 3)))] [(0,0,At.words true []),(0,1,At.int .u64 0),(5,0,At.words false (fw (shortF (Fw.f (fw (Fx.mk ((2:Int)^Int.toNat q) 0))) n)).xs),(5,1,At.int .u64 (fw (shortF (Fw.f (fw (Fx.mk ((2:Int)^Int.toNat q) 0))) n)).e),(9,0,At.words false (fw (shortF (Fw.f (fw (Fx.mk ((2:Int)^Int.toNat q) 0))) n)).xs),(9,1,At.int .u64 (fw (shortF (Fw.f (fw (Fx.mk ((2:Int)^Int.toNat q) 0))) n)).e),(10,0,At.words true []),(10,1,At.int .u64 0)] 11=LKeep.at niK (niSt n b P S0 S1 a))∧∀ (a:Nat×Bool),a.fst≤K→br (ltI 0 (↑(List.length (fw (P a.fst)).xs):Int)) (((0:Int)≤(fw (P a.fst)).e∧(fw (P a.fst)).e≤1099511627776∧(0:Int)<n∧n≤4294967296)∧((0:Int)≤(fw (shortF (Fw.f (fw (P a.fst))) n)).e∧(fw (shortF (Fw.f (fw (P a.fst))) n)).e≤1099511627776∧(0:Int)<n∧n≤4294967296)∧((0:Int)≤(fw (shortF (Fw.f (fw (shortF (Fw.f (fw (P a.fst))) n))) n)).e∧(fw (shortF (Fw.f (fw (shortF (Fw.f (fw (P a.fst))) n))) n)).e≤1099511627776∧(0:Int)<2*(↑a.fst:Int)+3∧(2:Int)*(↑a.fst:Int)+3≤4294967296)∧br b ((4:Int)≠0∧br (eqI (Int.tmod ((2:Int)*(↑a.fst:Int)+3) 4) 3) ((Fw.Ok (fw (S1 (a.fst+1)))∧Fw.Ok (fw (shortF (Fw.f (fw (shortF (Fw.f (fw (shortF (Fw.f (fw (P a.fst))) n))) n))) ((2:Int)*(↑a.fst:Int)+3))))∧true=true∧∃ (a':Nat×Bool),a'.fst≤K∧Sg.mk [(0,Tv.sv (Sv.one (At.int .u64 n))),(1,bT b),(6,Tv.sv (Sv.one (At.ptr 0 0))),(7,Tv.sv (Sv.one (At.ptr 5 0))),(8,Tv.sv (Sv.one (At.ptr 9 0))),(9,Tv.sv (Sv.one (At.ptr 10 0))),(10,Tv.sv (Sv.one (At.int .u64 (IntKind.wrap IntKind.u64 ((2:Int)*(↑a.fst:Int)+3+2)))))] [(0,0,At.words true []),(0,1,At.int .u64 0),(5,0,At.words false (fw (shortF (Fw.f (fw (shortF (Fw.f (fw (P a.fst))) n))) n)).xs),(5,1,At.int .u64 (fw (shortF (Fw.f (fw (shortF (Fw.f (fw (P a.fst))) n))) n)).e),(9,0,At.words false (fw (S0 (a.fst+1))).xs),(9,1,At.int .u64 (fw (S0 (a.fst+1))).e),(10,0,At.words false (fw (addF (Fw.f (fw (S1 (a.fst+1)))) (Fw.f (fw (shortF (Fw.f (fw (shortF (Fw.f (fw (shortF (Fw.f (fw (P a.fst))) n))) n))) ((2:Int)*(↑a.fst:Int)+3)))))).xs),(10,1,At.int .u64 (fw (addF (Fw.f (fw (S1 (a.fst+1)))) (Fw.f (fw (shortF (Fw.f (fw (shortF (Fw.f (fw (shortF (Fw.f (fw (P a.fst))) n))) n))) ((2:Int)*(↑a.fst:Int)+3)))))).e)] 11=LKeep.at niK (niSt n b P S0 S1 a')∧K-a'.fst<K-a.fst) ((Fw.Ok (fw (S0 (a.fst+1)))∧Fw.Ok (fw (shortF (Fw.f (fw (shortF (Fw.f (fw (shortF (Fw.f (fw (P a.fst))) n))) n))) ((2:Int)*(↑a.fst:Int)+3))))∧true=true∧∃ (a':Nat×Bool),a'.fst≤K∧Sg.mk [(0,Tv.sv (Sv.one (At.int .u64 n))),(1,bT b),(6,Tv.sv (Sv.one (At.ptr 0 0))),(7,Tv.sv (Sv.one (At.ptr 5 0))),(8,Tv.sv (Sv.one (At.ptr 9 0))),(9,Tv.sv (Sv.one (At.ptr 10 0))),(10,Tv.sv (Sv.one (At.int .u64 (IntKind.wrap IntKind.u64 ((2:Int)*(↑a.fst:Int)+3+2)))))] [(0,0,At.words true []),(0,1,At.int .u64 0),(5,0,At.words false (fw (shortF (Fw.f (fw (shortF (Fw.f (fw (P a.fst))) n))) n)).xs),(5,1,At.int .u64 (fw (shortF (Fw.f (fw (shortF (Fw.f (fw (P a.fst))) n))) n)).e),(9,0,At.words false (fw (addF (Fw.f (fw (S0 (a.fst+1)))) (Fw.f (fw (shortF (Fw.f (fw (shortF (Fw.f (fw (shortF (Fw.f (fw (P a.fst))) n))) n))) ((2:Int)*(↑a.fst:Int)+3)))))).xs),(9,1,At.int .u64 (fw (addF (Fw.f (fw (S0 (a.fst+1)))) (Fw.f (fw (shortF (Fw.f (fw (shortF (Fw.f (fw (shortF (Fw.f (fw (P a.fst))) n))) n))) ((2:Int)*(↑a.fst:Int)+3)))))).e),(10,0,At.words a.snd (fw (S1 (a.fst+1))).xs),(10,1,At.int .u64 (fw (S1 (a.fst+1))).e)] 11=LKeep.at niK (niSt n b P S0 S1 a')∧K-a'.fst<K-a.fst)) ((Fw.Ok (fw (S0 (a.fst+1)))∧Fw.Ok (fw (shortF (Fw.f (fw (shortF (Fw.f (fw (shortF (Fw.f (fw (P a.fst))) n))) n))) ((2:Int)*(↑a.fst:Int)+3))))∧true=true∧∃ (a':Nat×Bool),a'.fst≤K∧Sg.mk [(0,Tv.sv (Sv.one (At.int .u64 n))),(1,bT b),(6,Tv.sv (Sv.one (At.ptr 0 0))),(7,Tv.sv (Sv.one (At.ptr 5 0))),(8,Tv.sv (Sv.one (At.ptr 9 0))),(9,Tv.sv (Sv.one (At.ptr 10 0))),(10,Tv.sv (Sv.one (At.int .u64 (IntKind.wrap IntKind.u64 ((2:Int)*(↑a.fst:Int)+3+2)))))] [(0,0,At.words true []),(0,1,At.int .u64 0),(5,0,At.words false (fw (shortF (Fw.f (fw (shortF (Fw.f (fw (P a.fst))) n))) n)).xs),(5,1,At.int .u64 (fw (shortF (Fw.f (fw (shortF (Fw.f (fw (P a.fst))) n))) n)).e),(9,0,At.words false (fw (addF (Fw.f (fw (S0 (a.fst+1)))) (Fw.f (fw (shortF (Fw.f (fw (shortF (Fw.f (fw (shortF (Fw.f (fw (P a.fst))) n))) n))) ((2:Int)*(↑a.fst:Int)+3)))))).xs),(9,1,At.int .u64 (fw (addF (Fw.f (fw (S0 (a.fst+1)))) (Fw.f (fw (shortF (Fw.f (fw (shortF (Fw.f (fw (shortF (Fw.f (fw (P a.fst))) n))) n))) ((2:Int)*(↑a.fst:Int)+3)))))).e),(10,0,At.words a.snd (fw (S1 (a.fst+1))).xs),(10,1,At.int .u64 (fw (S1 (a.fst+1))).e)] 11=LKeep.at niK (niSt n b P S0 S1 a')∧K-a'.fst<K-a.fst)) ((Fw.Ok (Fw.mk (fw (S0 (a.fst+1))).xs (IntKind.wrap IntKind.u64 ((fw (S0 (a.fst+1))).e+4)))∧Fw.Ok (Fw.mk (fw (S1 (a.fst+1))).xs (IntKind.wrap IntKind.u64 ((fw (S1 (a.fst+1))).e+4)))∧(Fw.f (Fw.mk (fw (S1 (a.fst+1))).xs (IntKind.wrap IntKind.u64 ((fw (S1 (a.fst+1))).e+4)))).a+(Fw.f (Fw.mk (fw (S1 (a.fst+1))).xs (IntKind.wrap IntKind.u64 ((fw (S1 (a.fst+1))).e+4)))).e≤(Fw.f (Fw.mk (fw (S0 (a.fst+1))).xs (IntKind.wrap IntKind.u64 ((fw (S0 (a.fst+1))).e+4)))).a)∧Q (Tv.sv (Sv.agg (fwL false (fw (subF (Fw.f (Fw.mk (fw (S0 (a.fst+1))).xs (IntKind.wrap IntKind.u64 ((fw (S0 (a.fst+1))).e+4)))) (Fw.f (Fw.mk (fw (S1 (a.fst+1))).xs (IntKind.wrap IntKind.u64 ((fw (S1 (a.fst+1))).e+4))))))))))):=by kernel_rfl
section
variable {n w:Int} (h:InvOk n w)
include h
theorem refP_le(k:Nat):0≤(refP n w k).a∧(refP n w k).a≤2^w.toNat:=by
  have a0:=(refP_in h k).a0
  have s:=refP_small h k
  have p:=two_pow_pos k
  have m:=imL (show (1:Int)≤2^k by omega) a0
  exact ⟨a0,by omega⟩
theorem refP_ok(k:Nat):(refP n w k).Ok:=by
  have a:=refP_le h k
  have e:=refP_e h k
  exact fx_small h a.1 (by omega) (by omega) (by omega)
theorem refT_ok(k:Nat):(refT n w k).Ok:=by
  have a:=refP_le h k
  have b:=refT_le h k
  have c:=(refT_in h k).a0
  have e:=refT_e h k
  exact fx_small h c (by omega) (by omega) (by omega)
theorem refM_ok(b:Nat){k:Nat}(hk:(k:Int)≤w+2):(SmT (refT n w) b k).Ok∧(SmT (refT n w) b k).e≤131080:=by
  have a:=smR_a h b k
  have p0:=(refP_in h k).a0
  have q:=refP_le h 0
  have e:=smR_e h b k
  have w1:=h.w1
  exact ⟨fx_small h a.1 (by omega) e.1 (by omega),by omega⟩
end
def niInv:Spec:=specK [.i .u64,.b,.i .i64] fun (n:Int) (b:Bool) (q:Int)=>(some (b=true∧InvOk n q),fxT (refS n q))
theorem niInv_ok:SpecOk Tryz.prog 157 niInv :=
  specKW_ok (envOk tys3_ok sNi_ok) mixed Tryz.func157 rfl (by decide) (by decide) fun (n:Int) _ (b:Bool) _ (q:Int) _ hp=>by
    obtain ⟨rfl,h⟩:b=true∧InvOk n q:=hp
    refine ⟨niInvL n true (refP n q) (SmT (refT n q) 0) (SmT (refT n q) 1) (refK n q),0,?_⟩
    show execF _ _ _ _ _ (fun t=>t=fxT (refS n q)∨fgT t=fxT (refS n q))
    refine (niInv_vc n q true (refP n q) (SmT (refT n q) 0) (SmT (refT n q) 1) (refK n q) _).mpr ?_
    have n0:=h.n0
    have n1:=h.n1
    have w0:=h.w0
    have w1:=h.w1
    have p:=two_pow_pos q.toNat
    obtain ⟨k2,k3,k4⟩:=refK_spec h
    have ew:∀ z:Fx,(fw z).e=z.e:=fun _=>rfl
    have x1:(fw (⟨2^q.toNat,0⟩:Fx)).f=⟨2^q.toNat,0⟩:=fw_f (by show (0:Int)≤2^q.toNat;omega)
    have xs0:fw (⟨0,0⟩:Fx)=⟨[],0⟩:=by show (⟨ws 0,0⟩:Fw)=_;rw [ws_zero]
    have S01:SmT (refT n q) 0 (0+1)=refP n q 0:=by
      show addF ⟨0,0⟩ (refP n q 0)=_
      show (⟨0+_,0+_⟩:Fx)=_
      rw [Int.zero_add,Int.zero_add]
    have S11:SmT (refT n q) 1 (0+1)=⟨0,0⟩:=rfl
    rw [x1,ew]
    refine ⟨⟨by omega,by omega⟩,⟨Int.le_refl _,by show (0:Int)≤_;omega,by omega,by omega⟩,rfl,⟨(0,true),Nat.zero_le _,?_⟩,fun a ha=>?_⟩
    · unfold LKeep.at niSt
      dsimp only
      rw [S01,S11,xs0];rfl
    · obtain ⟨k,nb⟩:=a
      have ha:k≤refK n q:=ha
      have oP:=refP_ok h k
      have eP:=refP_e h k
      have hl:ltI 0 ((fw (refP n q k)).xs.length:Nat)=decide ((refP n q k).a≠0):=len_pos oP.1
      have fP:(fw (refP n q k)).f=refP n q k:=fw_f oP.1
      have z1:=shortF_e0 (d:=n) oP.1 (show 0≤(refP n q k).e by omega) (by omega)
      have f1:(fw (shortF (refP n q k) n)).f=shortF (refP n q k) n:=fw_f z1.1
      have eP1:shortF (shortF (refP n q k) n) n=refP n q (k+1):=rfl
      have oP1:=refP_ok h (k+1)
      have ee1:=refP_e h (k+1)
      have f2:(fw (refP n q (k+1))).f=refP n q (k+1):=fw_f oP1.1
      have eT:shortF (refP n q (k+1)) (2*((k:Nat):Int)+3)=refT n q (k+1):=by
        show _=shortF (refP n q (k+1)) (2*((k+1:Nat):Int)+1)
        congr 1
      have oT:=refT_ok h (k+1)
      have fT:(fw (refT n q (k+1))).f=refT n q (k+1):=fw_f oT.1
      have wk:IntKind.u64.wrap (2*(k:Int)+3+2)=2*((k+1:Nat):Int)+3:=by rw [wrap_w ⟨by omega,by omega⟩];omega
      have o0:=refM_ok h 0 (k:=k+1) (by omega)
      have o1:=refM_ok h 1 (k:=k+1) (by omega)
      have m0:(fw (SmT (refT n q) 0 (k+1))).f=SmT (refT n q) 0 (k+1):=fw_f o0.1.1
      have m1:(fw (SmT (refT n q) 1 (k+1))).f=SmT (refT n q) 1 (k+1):=fw_f o1.1.1
      show br (ltI 0 ((fw (refP n q k)).xs.length:Nat)) _ _
      rw [hl]
      refine br_intro (fun hc=>?_) fun hc=>?_
      · have hne:(refP n q k).a≠0:=of_decide_eq_true hc
        have hkK:k<refK n q:=by
          rcases Nat.lt_or_ge k (refK n q) with c | c
          · exact c
          · have:k=refK n q:=by omega
            rw [this] at hne;exact absurd k3 hne
        show _∧_∧_∧br true _ _
        dsimp only
        rw [fP,f1,eP1,f2,eT,fT,m0,m1,wk,ew,ew,ew]
        have tm:Int.tmod (2*(k:Int)+3) 4=(2*(k:Int)+3) % 4:=Int.tmod_eq_emod_of_nonneg (by omega)
        refine ⟨⟨by omega,by omega,by omega,by omega⟩,⟨by omega,by omega,by omega,by omega⟩,⟨by omega,by omega,by omega,by omega⟩,br_intro (fun _=>⟨by decide,br_intro (fun h3=>⟨⟨o1.1.w,oT.w⟩,rfl,(k+1,false),hkK,?_,by show refK n q-(k+1)<refK n q-k;omega⟩) fun h3=>⟨⟨o0.1.w,oT.w⟩,rfl,(k+1,nb),hkK,?_,by show refK n q-(k+1)<refK n q-k;omega⟩⟩) fun h3=>by cases h3⟩
        · have h3:=eqI_true.1 h3
          rw [tm] at h3
          have s1:SmT (refT n q) 1 (k+1+1)=addF (SmT (refT n q) 1 (k+1)) (refT n q (k+1)):=if_pos (by omega)
          have s0:SmT (refT n q) 0 (k+1+1)=SmT (refT n q) 0 (k+1):=if_neg (by omega)
          unfold LKeep.at niSt
          dsimp only
          rw [s1,s0];rfl
        · have h3:=eqI_false.1 h3
          rw [tm] at h3
          have s1:SmT (refT n q) 1 (k+1+1)=SmT (refT n q) 1 (k+1):=if_neg (by omega)
          have s0:SmT (refT n q) 0 (k+1+1)=addF (SmT (refT n q) 0 (k+1)) (refT n q (k+1)):=if_pos (by omega)
          unfold LKeep.at niSt
          dsimp only
          rw [s1,s0];rfl
      · have hz:(refP n q k).a=0:=by have:=of_decide_eq_false hc;omega
        have hkK:k=refK n q:=by
          rcases Nat.lt_or_ge k (refK n q) with c | c
          · exact absurd hz (k4 k c)
          · omega
        dsimp only
        have wd:∀ b,(SmT (refT n q) b (k+1)).Ok∧(SmT (refT n q) b (k+1)).e≤131080→(⟨(fw (SmT (refT n q) b (k+1))).xs,IntKind.u64.wrap ((fw (SmT (refT n q) b (k+1))).e+4)⟩:Fw)=fw (widerF (SmT (refT n q) b (k+1)) 4):=fun b o=>by
          rw [ew,wrap_w ⟨by have:=o.1.2.2.1;omega,by have:=o.2;omega⟩];rfl
        have ow:∀ b,(SmT (refT n q) b (k+1)).Ok∧(SmT (refT n q) b (k+1)).e≤131080→(widerF (SmT (refT n q) b (k+1)) 4).Ok:=fun b o=>⟨o.1.1,o.1.2.1,by show 0≤_+4;have:=o.1.2.2.1;omega,by show _+4≤_;have:=o.2;omega⟩
        rw [wd 0 o0,wd 1 o1,fw_f (ow 0 o0).1,fw_f (ow 1 o1).1]
        have bd:=refS_bd h
        have eS:refS n q=subF (widerF (SmT (refT n q) 0 (k+1)) 4) (widerF (SmT (refT n q) 1 (k+1)) 4):=by rw [hkK];rfl
        have ea:(refS n q).a=(widerF (SmT (refT n q) 0 (k+1)) 4).a-((widerF (SmT (refT n q) 1 (k+1)) 4).a+(widerF (SmT (refT n q) 1 (k+1)) 4).e):=by rw [eS];rfl
        refine ⟨⟨(ow 0 o0).w,(ow 1 o1).w,by omega⟩,.inl ?_⟩
        rw [eS]
theorem refS_ok{n w t:Int}(h:InvOk n w)(t0:1≤t)(t1:t≤64):(timesF (refS n w) t).Ok∧(refS n w).Ok∧(refS n w).e≤549755813888:=by
  have g:=refS_bd h
  have w0:=h.w0
  have w1:=h.w1
  have q:=refP_le h 0
  have a0:=Int.mul_nonneg g.1 (show 0≤t by omega)
  have a1:=Int.mul_le_mul (show (refS n w).a≤2*2^w.toNat by omega) t1 (by omega) (by omega)
  have e0:=Int.mul_nonneg g.2.2.1 (show 0≤t by omega)
  have e1:=Int.mul_le_mul g.2.2.2.1 t1 (by omega) (by omega)
  have b:blen ((refS n w).a*t)≤w.toNat+7+1:=blen_pow_le (by
    rw [show (2:Int)^(w.toNat+7)=2^w.toNat*128 by rw [Int.pow_add];rfl];omega)
  exact ⟨⟨a0,by show blen ((refS n w).a*t)≤_;omega,e0,by show (refS n w).e*t≤_;omega⟩,fx_small h g.1 (by omega) g.2.2.1 (by omega),by omega⟩
theorem piR_gap{w:Int}(w0:32≤w)(w1:w≤65536):(timesF (refS 239 w) 4).a+(timesF (refS 239 w) 4).e≤(timesF (refS 5 w) 16).a:=by
  have h:=(piR_e w0 w1).1
  have e1:(piR w).a=(timesF (refS 5 w) 16).a-((timesF (refS 239 w) 4).a+(timesF (refS 239 w) 4).e):=rfl
  omega
theorem piR_ok{w:Int}(w0:32≤w)(w1:w≤65536):(piR w).Ok:=by
  obtain ⟨a0,e0,e1,a1⟩:=piR_e w0 w1
  have b:blen (piR w).a≤w.toNat+5+1:=blen_pow_le (by
    rw [show (2:Int)^(w.toNat+5)=2^w.toNat*32 by rw [Int.pow_add];rfl];omega)
  exact ⟨a0,by omega,e0,by omega⟩
def sNp(fS:Int→Int→Fx)(pr:Int→Int→Prop):List (FuncId×Spec):=[(157,specK [.i .u64,.b,.i .i64] fun (n:Int) (b:Bool) (q:Int)=>(some (b=true∧pr n q),fxT (fS n q))),(156,niTimes),(155,niSub)]
theorem sNp_ok:SpecsOk Tryz.prog (sNp refS InvOk):=⟨niInv_ok,niTimes_ok,niSub_ok,trivial⟩
theorem niPi_vc(q:Int)(fS:Int→Int→Fx)(pr:Int→Int→Prop)(Q:Tv→Prop):execF ⟨tys3,sNp fS pr⟩ (fun _=>none) 0 Tryz.f125 [.one (.int .i64 q)] Q=((true=true∧pr 5 q)∧(Fw.Ok (fw (fS 5 q))∧(fw (fS 5 q)).e≤549755813888∧(0:Int)≤16∧(16:Int)≤64)∧(true=true∧pr 239 q)∧(Fw.Ok (fw (fS 239 q))∧(fw (fS 239 q)).e≤549755813888∧(0:Int)≤4∧(4:Int)≤64)∧(Fw.Ok (fw (timesF (Fw.f (fw (fS 5 q))) 16))∧Fw.Ok (fw (timesF (Fw.f (fw (fS 239 q))) 4))∧(Fw.f (fw (timesF (Fw.f (fw (fS 239 q))) 4))).a+(Fw.f (fw (timesF (Fw.f (fw (fS 239 q))) 4))).e≤(Fw.f (fw (timesF (Fw.f (fw (fS 5 q))) 16))).a)∧Q (Tv.sv (Sv.agg (fwL false (fw (subF (Fw.f (fw (timesF (Fw.f (fw (fS 5 q))) 16))) (Fw.f (fw (timesF (Fw.f (fw (fS 239 q))) 4))))))))):=by kernel_rfl
def niPi:Spec:=specK [.i .i64] fun (q:Int)=>(some (32≤q∧q≤65536),fxT (piR q))
theorem niPi_ok:SpecOk Tryz.prog 125 niPi :=
  specKW_ok (envOk tys3_ok sNp_ok) mixed Tryz.func125 rfl (by decide) (by decide) fun (q:Int) _ hp=>⟨fun _=>none,0,by
    obtain ⟨w0,w1⟩:32≤q∧q≤65536:=hp
    have h5:InvOk 5 q:=⟨by omega,by omega,w0,w1⟩
    have h2:InvOk 239 q:=⟨by omega,by omega,w0,w1⟩
    obtain ⟨o5,p5,l5⟩:=refS_ok h5 (t:=16) (by omega) (by omega)
    obtain ⟨o2,p2',l2⟩:=refS_ok h2 (t:=4) (by omega) (by omega)
    show execF _ _ _ _ _ (fun t=>t=fxT (piR q)∨fgT t=fxT (piR q))
    refine (niPi_vc q refS InvOk _).mpr ?_
    rw [fw_f p5.1,fw_f p2'.1,fw_f o5.1,fw_f o2.1]
    exact ⟨⟨rfl,h5⟩,⟨p5.w,l5,by omega,by omega⟩,⟨rfl,h2⟩,⟨p2'.w,l2,by omega,by omega⟩,⟨o5.w,o2.w,piR_gap w0 w1⟩,.inl rfl⟩⟩
def sHp(fP:Int→Fx)(pr:Int→Prop):List (FuncId×Spec):=[(125,specK [.i .i64] fun (q:Int)=>(some (pr q),fxT (fP q))),(124,niIval)]
theorem sHp_ok:SpecsOk Tryz.prog (sHp piR (fun q=>32≤q∧q≤65536)):=⟨niPi_ok,niIval_ok,trivial⟩
theorem hPi_vc(w:Int)(fP:Int→Fx)(pr:Int→Prop)(Q:Tv→Prop):execF ⟨tys3,sHp fP pr⟩ (fun _=>none) 0 Tryz.f86 [.one (.int .i64 w)] Q=(pr w∧(Fw.Ok (fw (fP w))∧(0:Int)≤w∧w≤16777216)∧Q (Tv.sv (Sv.agg (ivL true (ivF (Fw.f (fw (fP w))) w))))):=by kernel_rfl
def hPi:Spec:=specK [.i .i64] fun (w:Int)=>(some (32≤w∧w≤65536),vT (refPi w))
theorem hPi_ok:SpecOk Tryz.prog 86 hPi :=
  specK_ok (envOk tys3_ok sHp_ok) mixed Tryz.func86 rfl (by decide) (by decide) fun (w:Int) _ hp=>⟨fun _=>none,0,by
    obtain ⟨w0,w1⟩:32≤w∧w≤65536:=hp
    have o:=piR_ok w0 w1
    show execF _ _ _ _ _ (fun t=>t=vT (refPi w))
    refine (hPi_vc w piR (fun q=>32≤q∧q≤65536) _).mpr ?_
    rw [fw_f o.1]
    exact ⟨⟨w0,w1⟩,⟨o.w,by omega,by omega⟩,rfl⟩⟩
def sQh1:List (FuncId×Spec):=[(57,hNear),(60,hBy4),(45,gDiv),(35,gLess)] ++ sG3
theorem sQh1_ok:SpecsOk Tryz.prog sQh1:=⟨hNear_ok,hBy4_ok,gDiv_ok,gLess_ok,sG3_ok⟩
theorem canon_cases(x:Dx):(x.fitsB=true∧(oneD x).fitsB=true∧canonD x=(oneD x,0))∨(x.fitsB=true∧(oneD x).fitsB=false∧(canonD x).2=3)∨(x.fitsB=false∧(canonD x).2=2):=by
  unfold canonD roomD
  cases h:x.fitsB<;>cases k:(oneD x).fitsB<;>simp
theorem hTurns_vc(x:Dx)(Q:Tv→Prop):execF ⟨tys2,sQh1⟩ (fun _=>none) 0 Tryz.f28 [.agg (dyL false x)] Q=(br (neI (canonD x).snd 0) (Q (Tv.tup [Sv.one (At.int .i64 0),Sv.agg [At.bool false,At.words true [],At.int .i64 0],Sv.one (At.int .i64 (canonD x).snd)])) ((eB 2305843009213693952 (canonD x).fst∧(-2305843009213693952:Int)≤1∧(1:Int)≤2305843009213693952)∧Dx.Sm 268435456 (shiftD (canonD x).fst 1)∧(eB 2305843009213693952 (nearD (shiftD (canonD x).fst 1))∧(-2305843009213693952:Int)≤(-1)∧(-1:Int)≤2305843009213693952)∧(Dx.Sm 34359738368 (canonD x).fst∧Dx.Sm 34359738368 (shiftD (nearD (shiftD (canonD x).fst 1)) (-1)))∧true=true∧br (!Dx.fitsB (lessD (canonD x).fst (shiftD (nearD (shiftD (canonD x).fst 1)) (-1)))) (Q (Tv.tup [Sv.one (At.int .i64 0),Sv.agg [At.bool false,At.words true [],At.int .i64 0],Sv.one (At.int .i64 3)])) ((OneF (nearD (shiftD (canonD x).fst 1))∧(0:Int)≤(nearD (shiftD (canonD x).fst 1)).e)∧true=true∧Q (Tv.tup [Sv.one (At.int .i64 (by4I (nearD (shiftD (canonD x).fst 1)))),Sv.agg (dyL true (lessD (canonD x).fst (shiftD (nearD (shiftD (canonD x).fst 1)) (-1)))),Sv.one (At.int .i64 0)])))):=by kernel_rfl
def hTurns:Spec:=specK [.d] fun (x:Dx)=>(none,turT (turR x))
theorem hTurns_ok:SpecOk Tryz.prog 28 hTurns :=
  specKW_ok (envOk tys2_ok sQh1_ok) mixed Tryz.func28 rfl (by decide) (by decide) fun (x:Dx) hxw _=>⟨fun _=>none,0,by
    have hx:=Dx.Wf.m0 hxw
    show execF _ _ _ _ _ (fun t=>t=turT (turR x)∨fgT t=turT (turR x))
    refine (hTurns_vc x _).mpr ?_
    rcases canon_cases x with ⟨c1,c2,c3⟩|⟨c1,c2,c3⟩|⟨c1,c3⟩
    · rw [c3]
      have bx:=(fits_bd c1).one hx
      obtain ⟨bn,br'⟩:=turX_bd oneD_p bx
      rw [turR,if_pos c1]
      refine br_intro (fun h=>by cases h) fun _=>⟨⟨(bx.sm (N:=131072) (by omega)).eB (by omega),by omega,by omega⟩,(shift_bd oneD_p bx).sm (by omega),⟨(bn.sm (N:=131080) (by omega)).eB (by omega),by omega,by omega⟩,⟨bx.sm (by omega),(shift_bd' nearD_p bn).sm (by omega)⟩,rfl,br_intro (fun h2=>.inr ?_) fun h2=>⟨⟨nearD_f,nearD_e⟩,rfl,.inr ?_⟩⟩
      · rw [if_neg (by rw [show (turX (oneD x)).fitsB=false from not_true h2];simp)];rfl
      · rw [if_pos ⟨c2,not_false' h2⟩];rfl
    · rw [c3,turR,if_pos c1,if_neg (by rw [c2];simp)]
      exact br_intro (fun _=>.inr rfl) fun h=>by cases h
    · rw [c3,turR,if_neg (by rw [c1];simp)]
      exact br_intro (fun _=>.inr rfl) fun h=>by cases h⟩
theorem Dn.close{p:Int}{q r A:Rat}(h:Dn p q r)(hp:1≤p)(h1:-A≤q)(h2:q≤A):q-eps p*A≤r∧r≤q:=by
  have e0:=eps_pos p
  refine ⟨?_,h.2.1⟩
  rcases (show 0<q∨q=0∨q<0 by grind) with c | c | c
  · have r1:=(h.rel hp c).1
    have m:=rmL h2 (rlL e0)
    grind
  · subst c
    have:=h.2.2 0 (Rp.zero p) Rat.le_refl
    have m:=rmL h2 (rlL e0)
    grind
  · have r1:=h.neg.rel hp (show 0 < -q by grind)
    have m:=rmL (show -q≤A by grind) (rlL e0)
    grind
theorem Up.close{p:Int}{q r A:Rat}(h:Up p q r)(hp:1≤p)(h1:-A≤q)(h2:q≤A):q≤r∧r≤q+eps p*A:=by
  have:=h.neg.close hp (A:=A) (by grind) (by grind)
  constructor<;>grind
section
variable {d:Rat} {h:Vx} (k:HfIv d h) {x:Dx} (hx:0≤x.m) {w:Int} (hw:1≤w)
include k hx hw
end
def wsK:Nat→Int→List Int
  | 0,_=>[]
  | k+1,n=>if 0<n then (n % 18446744073709551616) :: wsK k (n/18446744073709551616) else []
theorem wsK_eq:∀ {k:Nat} {n:Int},n<2^k→ws n=wsK k n
  | 0,n,h=>by rw [ws_nonpos (by simp at h;omega)];rfl
  | k+1,n,h=>by
    unfold wsK
    by_cases hp:0<n
    · have p:=two_pow_pos k
      rw [Int.pow_succ] at h
      rw [ws_pos hp,if_pos hp,wsK_eq (k:=k) (by omega)]
    · rw [ws_nonpos (by omega),if_neg hp]
theorem ws_K(n:Int):ws n=wsK (blen n) n:=wsK_eq (blen_lt n)
def tzK:Nat→Nat→Nat
  | 0,_=>0
  | k+1,n=>if n=0 then 0 else if n % 2=1 then 0 else tzK k (n/2)+1
theorem tzK_eq:∀ {k n:Nat},n<2^k→tzn n=tzK k n
  | 0,n,h=>by
    obtain rfl:n=0:=by simp at h;omega
    unfold tzn tzK;rfl
  | k+1,n,h=>by
    rw [Nat.pow_succ] at h
    unfold tzK;rw [tzn,tzK_eq (k:=k) (n:=n/2) (by omega)]
theorem tz_K{n:Int}:tz n=tzK (blen n) n.toNat:=by
  unfold tz
  refine tzK_eq ?_
  have h:=blen_lt n
  by_cases h0:0≤n
  · have:(n.toNat:Int)<((2^blen n:Nat):Int):=by rw [Int.toNat_of_nonneg h0];simpa using h
    exact_mod_cast this
  · rw [Int.toNat_of_nonpos (by omega)];exact Nat.two_pow_pos _
def mkDK(neg:Bool)(m e:Int):Dx:=if m=0 then ⟨false,[],0⟩ else
  let t:=tzK (blen m) m.toNat
  let q:=m/2^t
  ⟨neg,wsK (blen q) q,e+t⟩
theorem mkD_K(neg:Bool)(m e:Int):mkD neg m e=mkDK neg m e:=by
  unfold mkD mkDK;rw [tz_K,ws_K]
def fitsK(d:Dx):Bool:=decide ((wsK (blen d.m) d.m).length≤1024) && decide (-32768≤d.e) && decide (d.e≤32768)
def rightK(v:Vx):Bool:=fitsK v.lo && (fitsK v.hi && decide (cmpD v.lo v.hi≤0))
theorem great_K(m:Int):(!greatB m)=decide ((wsK (blen m) m).length≤1024):=by
  unfold greatB;rw [←ws_K]
  by_cases h:(ws m).length≤1024
  · rw [decide_eq_true h,decide_eq_false (by omega)];rfl
  · rw [decide_eq_false h,decide_eq_true (by omega)];rfl
theorem fits_K(d:Dx):d.fitsB=fitsK d:=by unfold Dx.fitsB fitsK;rw [great_K]
theorem right_K(v:Vx):rightV v=rightK v:=by unfold rightV rightK;rw [fits_K,fits_K]
theorem lit_f{k e:Int}(k0:0<k)(k1:k<18446744073709551616)(h:k % 2=1):OneF ⟨false,[k],e⟩:=by
  refine ⟨false,k,e,by omega,?_⟩
  unfold mkD
  rw [if_neg (by omega),tz_odd2 h (by omega),show k/2^0=k by simp,ws_pos k0,show k/18446744073709551616=0 by omega,ws_zero,Int.emod_eq_of_lt (by omega) k1]
  simp
theorem lit_rv{k e:Int}:(⟨false,[k],e⟩:Dx).rv=(k:Rat)*p2 e:=by
  have:(⟨false,[k],e⟩:Dx).sm=k:=by show val [k]=k;rw [val_cons];simp [val]
  unfold Dx.rv;rw [this]
theorem p2_v:p2 0=1∧p2 1=2∧p2 (-1)=1/2∧p2 (-2)=1/4:=by decide +kernel
theorem nearN_of{d:Dx}(hd:0≤d.m){n:Int}(h:NearI n d.rv):wholeS (nearD d)=n∧(nearD d).rv=(n:Rat):=by
  have e:wholeS (nearD d)=n:=(nearD_whole hd).uniq h
  exact ⟨e,by rw [←wholeS_rv nearD_e,e]⟩
theorem tur_ok{x:Dx}(h:(turR x).2.2=0):x.fitsB=true∧(oneD x).fitsB=true∧(turX (oneD x)).fitsB=true∧turR x=(by4I (turN (oneD x)),turX (oneD x),0):=by
  unfold turR at h ⊢
  split at h
  · rename_i h1
    split at h
    · rename_i h2
      rw [if_pos h1,if_pos h2];exact ⟨h1,h2.1,h2.2,rfl⟩
    · cases h
  · cases h
theorem turN_near{y:Dx}(hy:0≤y.m):NearI (wholeS (turN y)) (2*y.rv):=by
  have:=nearD_whole (d:=shiftD y 1) shiftD_p
  rw [rv_shift hy,p2_v.2.1] at this
  have e:2*y.rv=y.rv*2:=by grind
  rw [e];exact this
theorem turX_rv{y:Dx}(hy:0≤y.m):(turX y).rv=y.rv-(wholeS (turN y):Rat)*(1/2):=by
  unfold turX
  rw [rv_less hy shiftD_p,rv_shift (d:=turN y) nearD_p,p2_v.2.2.1,wholeS_rv (d:=turN y) nearD_e]
def xVVb(f:Vx→Vx→Bool):Spec:=specK [.v,.v] fun (v:Vx) (u:Vx)=>(none,bT (f v u))
def xVIb(f:Vx→Int→Bool):Spec:=specK [.v,.i .i64] fun (v:Vx) (p:Int)=>(none,bT (f v p))
def wTrue:Spec:=specK [] (none,bT true)
theorem sameD_refl(d:Dx):sameD d d=true:=by simp [sameD,eqI]
theorem sameV_refl(v:Vx):sameV v v=true:=by rw [sameV,sameD_refl,sameD_refl];rfl
theorem zero_rv:(⟨false,[],0⟩:Dx).rv=0:=rv_zero rfl
theorem cutD_zero(p:Int)(up:Bool)(hp:0≤p):cutD ⟨false,[],0⟩ p up=⟨false,[],0⟩:=by
  have o:oneD ⟨false,[],0⟩=⟨false,[],0⟩:=(oneD_f (Int.le_refl _)).zero (zeroB_true.1 ((zeroB_rv oneD_p).2 ((rv_one (Int.le_refl _)).trans zero_rv)))
  unfold cutD cutX
  rw [o,if_pos (by
    have:(blen (⟨false,[],0⟩:Dx).m:Int)=0:=by rw [show (⟨false,[],0⟩:Dx).m=0 from rfl];rfl
    omega)]
theorem trim_zero(p:Int)(hp:0≤p):trimV zeroIv p=zeroIv:=by
  show (⟨cutD ⟨false,[],0⟩ p false,cutD ⟨false,[],0⟩ p true⟩:Vx)=zeroIv
  rw [cutD_zero _ _ hp,cutD_zero _ _ hp];rfl
theorem zero_right:rightV zeroIv=true:=by rw [right_K];decide
theorem chk_of{d:Dx}(h:d.fitsB=true):chkD d=0:=by rw [chkD,if_pos h]
theorem fault_of{t:Dx}{p:Int}(ht:0≤t.m)(hf:t.fitsB=true)(h:small1 t)(p0:8≤p)(p1:p≤4096):faultD t p=0:=by
  rw [faultD,if_pos ⟨chk_of hf,p0,p1⟩,if_neg]
  intro k
  rw [cmpD_gt0,rv_int 1,rv_abs ht] at k
  have a:=rv_amt ht
  rcases (show 0≤t.rv∨t.rv≤0 by grind) with c | c
  · have:=a.1 c;have:=h.1;grind
  · have:=a.2 c;have:=h.2;grind
theorem small_fits{n:Int}(h:n.natAbs≤16):(mkS n 0).fitsB=true:=fits_mk (N:=5) (by omega) (blen_le (by omega)) (by omega) (by omega) (by omega) (by omega)
theorem le_eq{a b:Rat}(h:a=b):a≤b:=h ▸ Rat.le_refl
theorem fits_neg{d:Dx}(h:OneF d)(f:d.fitsB=true):(negD d).fitsB=true:=by
  by_cases hz:d.m=0
  · rw [h.zero hz];decide +kernel
  · have t0:=tz_odd2 (h.odd hz) h.p
    have e1:(negD d).m=d.m:=by unfold negD;rw [mkD_m h.p,t0];simp
    have e2:(negD d).e=d.e:=by unfold negD mkD;rw [if_neg hz,t0];simp
    unfold Dx.fitsB at f ⊢
    rw [e1,e2];exact f
def OneV(v:Vx):Prop:=OneF v.lo∧OneF v.hi
theorem zero_f:OneV zeroIv:=⟨⟨false,0,0,Int.le_refl _,(mkD_zero _ _).symm⟩,⟨false,0,0,Int.le_refl _,(mkD_zero _ _).symm⟩⟩
theorem sinS_bd{t:Rat}(t0:0<t)(t1:t≤1){a b:Rat}(h:Enc (sinS t) a b):a<t∧6*t-t*t*t<6*b:=by
  have x0:0<t*t:=Rat.mul_pos t0 t0
  have x1:t*t≤1:=sqr_le1 t1 (by grind)
  have y0:0<t*t*(t*t):=Rat.mul_pos x0 x0
  have y1:t*t*(t*t)≤t*t:=by have:=rmL x1 (rlL x0);grind
  have z1:t*t*(t*t)*(t*t)≤t*t*(t*t):=by have:=rmL x1 (rlL y0);grind
  have m1:tmf 2 (t*t) 1=t*t/6:=by simp [tmf];grind
  have m2:tmf 2 (t*t) 2=t*t*(t*t)/120:=by rw [tmf,m1];simp;grind
  have m3:tmf 2 (t*t) 3=t*t*(t*t)*(t*t)/5040:=by rw [tmf,m2];simp;grind
  have p02:parS 0 2 (t*t) 2=1:=by simp [parS,sumTo,tmf];grind
  have p12:parS 1 2 (t*t) 2=t*t/6:=by simp [parS,sumTo,m1];grind
  have p03:parS 0 2 (t*t) 3=1+t*t*(t*t)/120:=by simp [parS,sumTo,m1,m2];simp [tmf];grind
  have p13:parS 1 2 (t*t) 3=t*t/6:=by simp [parS,sumTo,m1,m2];grind
  have e1:=altS_enc (f:=2) (by omega) (rlL x0) x1 (K:=2) (r:=t*t*(t*t)/110) (by omega) (le_eq p02.symm) (le_eq p02) (le_eq p12.symm) (le_eq p12) (by rw [m2];grind)
  have e2:=altS_enc (f:=2) (by omega) (rlL x0) x1 (K:=3) (r:=t*t*(t*t)*(t*t)/4620) (by omega) (le_eq p03.symm) (le_eq p03) (le_eq p13.symm) (le_eq p13) (by rw [m3];grind)
  rw [sin_seq] at h
  have mul:∀ {a b:Rat},Enc (altS 2 (t*t)) a b→Enc (fun n=>t*altS 2 (t*t) n) (t*a) (t*b):=fun {a b} k=>by
    have l:=rmL k.self (rlL t0)
    refine Enc.mul (Enc.const t) k ?_
    rintro x y (rfl | rfl) (rfl | rfl)<;>exact ⟨by grind,by grind⟩
  have u:=h.meets (mul e1)
  have w:=(mul e2).meets h
  have q1:=Rat.mul_pos t0 (show 0<t*t/6-t*t*(t*t)/110 by grind)
  have q2:=Rat.mul_pos t0 (show 0<t*t*(t*t)/120-t*t*(t*t)*(t*t)/4620 by grind)
  exact ⟨by grind,by grind⟩
theorem cosS_bd{t:Rat}(t0:-1≤t)(t1:t≤1){a b:Rat}(h:Enc (cosS t) a b):a≤1∧1-t*t/2≤b:=by
  have x0:0≤t*t:=sqr_nonneg t
  have x1:t*t≤1:=sqr_le1 t1 t0
  have y0:0≤t*t*(t*t):=rmN x0 x0
  have y1:t*t*(t*t)≤t*t:=by have:=rmL x1 x0;grind
  have z1:t*t*(t*t)*(t*t)≤t*t*(t*t):=by have:=rmL x1 y0;grind
  have m1:tmf 1 (t*t) 1=t*t/2:=by simp [tmf];grind
  have m2:tmf 1 (t*t) 2=t*t*(t*t)/24:=by rw [tmf,m1];simp;grind
  have m3:tmf 1 (t*t) 3=t*t*(t*t)*(t*t)/720:=by rw [tmf,m2];simp;grind
  have p02:parS 0 1 (t*t) 2=1:=by simp [parS,sumTo,tmf];grind
  have p12:parS 1 1 (t*t) 2=t*t/2:=by simp [parS,sumTo,m1];grind
  have p03:parS 0 1 (t*t) 3=1+t*t*(t*t)/24:=by simp [parS,sumTo,m1,m2];simp [tmf];grind
  have p13:parS 1 1 (t*t) 3=t*t/2:=by simp [parS,sumTo,m1,m2];grind
  have e1:=altS_enc (f:=1) (by omega) x0 x1 (K:=2) (r:=t*t*(t*t)/22) (by omega) (le_eq p02.symm) (le_eq p02) (le_eq p12.symm) (le_eq p12) (by rw [m2];grind)
  have e2:=altS_enc (f:=1) (by omega) x0 x1 (K:=3) (r:=t*t*(t*t)*(t*t)/660) (by omega) (le_eq p03.symm) (le_eq p03) (le_eq p13.symm) (le_eq p13) (by rw [m3];grind)
  rw [cos_seq] at h
  have u:=h.meets e1
  have w:=e2.meets h
  exact ⟨by grind,by grind⟩
def condQ(x:Dx)(p:Int):Prop:=x.fitsB=true∧8≤p∧p≤3968
def flipD(x:Dx):Dx:=⟨!x.neg,x.xs,x.e⟩
theorem flip_rv(x:Dx):(flipD x).rv = -x.rv:=by
  have e:(flipD x).sm = -x.sm:=by
    unfold Dx.sm
    show (if (!x.neg)=true then -x.m else x.m) = -(if x.neg=true then -x.m else x.m)
    cases x.neg<;>simp
  unfold Dx.rv
  rw [e,Rat.intCast_neg]
  show -(x.sm:Rat)*p2 x.e=_
  grind
theorem flip_one{x:Dx}(hx:0≤x.m):oneD (flipD x)=negD (oneD x):=(oneD_f (d:=flipD x) hx).ext (negD_f oneD_p) (by rw [rv_one (d:=flipD x) hx,rv_neg oneD_p,rv_one hx,flip_rv])
theorem negneg{z:Dx}(h:OneF z):negD (negD z)=z:=(negD_f negD_p).ext h (by rw [rv_neg negD_p,rv_neg h.p];grind)
theorem neg_fits{z:Dx}(h:OneF z):(negD z).fitsB=z.fitsB:=by
  rw [Bool.eq_iff_iff]
  exact ⟨fun k=>by have:=fits_neg (negD_f h.p) k;rwa [negneg h] at this,fun k=>fits_neg h k⟩
theorem turn_odd{x:Dx}(hx:0≤x.m):turR (flipD x)=(if x.fitsB=true then (if (oneD x).fitsB=true∧(turX (oneD x)).fitsB=true then ((-wholeS (turN (oneD x))) % 4,negD (turX (oneD x)),0) else (0,zD0,3)) else (0,zD0,2)):=by
  have fy:OneF (oneD x):=oneD_f hx
  have fX:OneF (turX (oneD x)):=lessD_f oneD_p
  have n1:=turN_near fy.p
  have n2:=turN_near (y:=negD (oneD x)) negD_p
  have ew:wholeS (turN (negD (oneD x))) = -wholeS (turN (oneD x)):=by
    refine n2.uniq ?_
    have:=n1.neg
    rwa [show -(2*(oneD x).rv)=2*(negD (oneD x)).rv by rw [rv_neg fy.p];grind] at this
  have eX:turX (negD (oneD x))=negD (turX (oneD x)):=(lessD_f negD_p).ext (negD_f fX.p) (by
    show (turX (negD (oneD x))).rv=_
    rw [turX_rv negD_p,rv_neg fX.p,turX_rv fy.p,ew,rv_neg fy.p,Rat.intCast_neg];grind)
  have e4:by4I (turN (negD (oneD x)))=(-wholeS (turN (oneD x))) % 4:=by unfold by4I;rw [ew]
  unfold turR
  rw [flip_one hx,eX,neg_fits fy,neg_fits fX,e4]
  rfl
def farB(x:Dx):Bool:=!x.zeroB && (ltI (topD (oneD x)) (-16384) || ltI 16384 (topD (oneD x)))
def hFar:Spec:=specK [.d] fun (d:Dx)=>(some (d.Sm 131072),bT (farB d))
theorem hFar_vc(x:Dx)(Q:Tv→Prop):execF ⟨tys2,sQh1⟩ (fun _=>none) 0 Tryz.f30 [.agg (dyL false x)] Q=(br (Dx.zeroB x) (Q (bT false)) (eB 4611686018427387904 x∧eB 2305843009213693952 (oneD x)∧br (ltI ((oneD x).e+(↑(blen (Dx.m (oneD x))):Int)-1) (-16384)) (Q (bT true)) (Q (bT (ltI 16384 ((oneD x).e+(↑(blen (Dx.m (oneD x))):Int)-1)))))):=by kernel_rfl
theorem hFar_ok:SpecOk Tryz.prog 30 hFar :=
  specK_ok (envOk tys2_ok sQh1_ok) mixed Tryz.func30 rfl (by decide) (by decide) fun (x:Dx) hxw hp=>⟨fun _=>none,0,by
    have s:x.Sm 131072:=hp
    have hx:=Dx.Wf.m0 hxw
    show execF _ _ _ _ _ (fun t=>t=bT (farB x))
    refine (hFar_vc x _).mpr (br_intro (fun h=>?_) fun h=>⟨s.eB (by omega),(one_sm hx s).eB (by omega),br_intro (fun h1=>?_) fun h1=>?_⟩)
    · rw [farB,h];rfl
    · have h1:ltI (topD (oneD x)) (-16384)=true:=h1
      rw [farB,h,h1];rfl
    · have h1:ltI (topD (oneD x)) (-16384)=false:=h1
      show bT (ltI 16384 (topD (oneD x)))=_
      rw [farB,h,h1];rfl⟩
theorem tur_pair{x:Dx}(hx:0≤x.m):(turR x).2.2=(turR (flipD x)).2.2∧((turR x).2.2=0→∃ n X,(turR x).1=n % 4∧(turR (flipD x)).1=(-n) % 4∧(turR x).2.1=X∧(turR (flipD x)).2.1=negD X∧OneF X∧X.fitsB=true):=by
  have fX:OneF (turX (oneD x)):=lessD_f oneD_p
  rw [turn_odd hx]
  unfold turR
  by_cases h1:x.fitsB=true
  · rw [if_pos h1,if_pos h1]
    by_cases h2:(oneD x).fitsB=true∧(turX (oneD x)).fitsB=true
    · rw [if_pos h2,if_pos h2]
      exact ⟨rfl,fun _=>⟨wholeS (turN (oneD x)),turX (oneD x),rfl,rfl,rfl,rfl,fX,h2.2⟩⟩
    · rw [if_neg h2,if_neg h2]
      exact ⟨rfl,fun h=>by cases h⟩
  · rw [if_neg h1,if_neg h1]
    exact ⟨rfl,fun h=>by cases h⟩
def Box3(w:World)(g o:Nat)(a b c:Value):Prop :=
  (w.cell? ⟨g,o,none⟩=some a∧w.cell? ⟨g,o+1,none⟩=some b∧w.cell? ⟨g,o+2,none⟩=some c) ∧
  (w.frozen? ⟨g,o,none⟩=false∧w.frozen? ⟨g,o+1,none⟩=false∧w.frozen? ⟨g,o+2,none⟩=false)
theorem Box3.lt{w:World}{g o:Nat}{a b c:Value}(h:Box3 w g o a b c):g<w.heap.size:=World.block_lt_of_cell? w _ h.1.1
theorem Box3.below{w w':World}{g o:Nat}{a b c:Value}(h:Box3 w g o a b c)(hb:Below w.heap.size w w'):Box3 w' g o a b c:=by
  have hl:=h.lt
  have e:=bcell hb
  obtain ⟨⟨h1,h2,h3⟩,h4,h5,h6⟩:=h
  exact ⟨⟨(e.1 _ _ hl).trans h1,(e.1 _ _ hl).trans h2,(e.1 _ _ hl).trans h3⟩,(e.2 _ _ hl).trans h4,(e.2 _ _ hl).trans h5,(e.2 _ _ hl).trans h6⟩
theorem Box3.mid{w w':World}{B g o:Nat}{a b c:Value}(h:Box3 w g o a b c)(hb:Below B w w')(hl:g<B):Box3 w' g o a b c:=by
  obtain ⟨⟨h1,h2,h3⟩,h4,h5,h6⟩:=h
  exact ⟨⟨(hb.cell (p:=⟨g,o,none⟩) hl).trans h1,(hb.cell (p:=⟨g,o+1,none⟩) hl).trans h2,(hb.cell (p:=⟨g,o+2,none⟩) hl).trans h3⟩,(hb.frozen (p:=⟨g,o,none⟩) hl).trans h4,(hb.frozen (p:=⟨g,o+1,none⟩) hl).trans h5,(hb.frozen (p:=⟨g,o+2,none⟩) hl).trans h6⟩
theorem Box3.other{w:World}{g g' o:Nat}{a b c:Value}(h:Box3 w g 0 a b c)(hg:g≠g')(x:Value):Box3 (w.setCell ⟨g',o,none⟩ x) g 0 a b c:=by
  obtain ⟨⟨h1,h2,h3⟩,h4,h5,h6⟩:=h
  refine ⟨⟨?_,?_,?_⟩,?_,?_,?_⟩
  iterate 3 rw [World.cell?_setCell_other _ _ _ _ (by intro e;simp only [Addr.mk.injEq] at e;omega)];assumption
  all_goals rw [World.frozen?_setCell];assumption
theorem Box3.new(w:World)(a b c:Value)(t:TypeId):Box3 (w.alloc (.cells #[a,b,c] t)) w.heap.size 0 a b c:=by
  refine ⟨⟨?_,?_,?_⟩,?_,?_,?_⟩<;>go_simp
theorem Box3.set{w:World}{g:Nat}{a b c:Value}(h:Box3 w g 0 a b c)(a' b' c':Value) :
    Box3 (((w.setCell ⟨g,0,none⟩ a').setCell ⟨g,1,none⟩ b').setCell ⟨g,2,none⟩ c') g 0 a' b' c':=by
  obtain ⟨⟨h1,h2,h3⟩,h4,h5,h6⟩:=h
  simp only [Nat.zero_add] at h1 h2 h3 h4 h5 h6
  have n01:(⟨g,0,none⟩:Addr)≠⟨g,1,none⟩:=by simp
  have n02:(⟨g,0,none⟩:Addr)≠⟨g,2,none⟩:=by simp
  have n12:(⟨g,1,none⟩:Addr)≠⟨g,2,none⟩:=by simp
  refine ⟨⟨?_,?_,?_⟩,?_,?_,?_⟩
  · rw [World.cell?_setCell_other _ _ _ _ n02.symm,World.cell?_setCell_other _ _ _ _ n01.symm];exact World.cell?_setCell_same _ _ _ h1
  · rw [Nat.zero_add,World.cell?_setCell_other _ _ _ _ n12.symm];exact World.cell?_setCell_same _ _ _ ((World.cell?_setCell_other _ _ _ _ n01).trans h2)
  · rw [Nat.zero_add];exact World.cell?_setCell_same _ _ _ ((World.cell?_setCell_other _ _ _ _ n12).trans ((World.cell?_setCell_other _ _ _ _ n02).trans h3))
  all_goals rw [World.frozen?_setCell,World.frozen?_setCell,World.frozen?_setCell]
  all_goals assumption
theorem NatAt.set{B g o:Nat}{w:World}{v:Value}{xs:List Int}(h:NatAt B w v xs)(hg:g<B)(x:Value):NatAt B (w.setCell ⟨g,o,none⟩ x) v xs:=by
  obtain ⟨A,c,e,h1,h2,h3,h5,h4⟩:=h
  refine ⟨A,c,e,h1,h2,h3,h5,fun hp=>?_⟩
  obtain ⟨g',o',e,hB,hg',hc⟩:=h4 hp
  refine ⟨g',o',e,hB,by simpa using hg',fun j hj=>?_⟩
  rw [World.cell?_setCell_other _ _ _ _ (by intro e;simp only [Addr.mk.injEq] at e;omega)]
  exact hc j hj
abbrev put3(w:World)(g:Nat)(a b c:Value):World:=((w.setCell ⟨g,0,none⟩ a).setCell ⟨g,1,none⟩ b).setCell ⟨g,2,none⟩ c
theorem NatAt.put{B g:Nat}{w:World}{v:Value}{xs:List Int}(h:NatAt B w v xs)(hg:g<B)(a b c:Value):NatAt B (put3 w g a b c) v xs:=((h.set hg a).set hg b).set hg c
theorem Below.put{B g:Nat}{w0 w:World}(h:Below B w0 w)(hg:B≤g)(a b c:Value):Below B w0 (put3 w g a b c):=((h.setCell hg _).setCell hg _).setCell hg _
theorem results_dy{fn:Func}{p:Tmp}(h:fn.results = #[.cell p 27]){tmps:Array Value}{w:World}{g:Nat}{a b c:Value}(hp:tmps.getD p undef = .pointer (some ⟨g,0,none⟩))(hB:Box3 w g 0 a b c) :
    (results fn tmps).run Tryz.prog w = .ok (.agg #[a,b,c]) w:=by
  obtain ⟨⟨h1,h2,h3⟩,h4,h5,h6⟩:=hB
  simp only [Nat.zero_add] at h1 h2 h3 h4 h5 h6
  have hp':tmps[p]?.getD undef = .pointer (some ⟨g,0,none⟩):=by simpa using hp
  simp [results,h,hp',asAddr,go_sem,loadVar,h1,h2,h3]
theorem size_alloc(w:World)(o:Obj):(w.alloc o).heap.size=w.heap.size+1:=by simp
noncomputable abbrev cpW (w:World) (neg:Bool) (s:Value) (e:Int):World:=((w.alloc (.cells #[.bool neg,s,.int .i64 e] 27)).alloc (.cells #[.bool false,.slice none 0 0,.int .i64 0] 27)).alloc (.cells #[] 23)
theorem cp_below(w:World)(neg:Bool)(s:Value)(e:Int):Below w.heap.size w (cpW w neg s e):=below_plus (below_plus (below_also w _) _) _
theorem cp_size(w:World)(neg:Bool)(s:Value)(e:Int):(cpW w neg s e).heap.size=w.heap.size+3:=by simp [cpW]
theorem cp_row(w:World)(neg:Bool)(s:Value)(e:Int):(cpW w neg s e).ownsRow (w.heap.size+2) 23 1 (.slice (some ⟨w.heap.size+1+1,0,none⟩) 0 0) 0 []:=by
  refine ⟨rfl,.inr ⟨_,0,#[],rfl,Nat.le_refl _,?_,Nat.le_refl _,Nat.zero_le _,rfl,rfl⟩⟩
  have:=heap_alloc_new ((w.alloc (.cells #[.bool neg,s,.int .i64 e] 27)).alloc (.cells #[.bool false,.slice none 0 0,.int .i64 0] 27)) (.cells #[] 23)
  rwa [size_alloc,size_alloc] at this
theorem cp_box(w:World)(neg:Bool)(s:Value)(e:Int):Box3 (cpW w neg s e) w.heap.size 0 (.bool neg) s (.int .i64 e)∧Box3 (cpW w neg s e) (w.heap.size+1) 0 (.bool false) (.slice none 0 0) (.int .i64 0):=by
  refine ⟨((Box3.new w _ _ _ _).below (below_also _ _)).below (below_also _ _),?_⟩
  have:=(Box3.new (w.alloc (.cells #[.bool neg,s,.int .i64 e] 27)) (.bool false) (.slice none 0 0) (.int .i64 0) 27).below (below_also _ (.cells #[] 23))
  rwa [size_alloc] at this
set_option maxHeartbeats 800000 in
theorem copy4_calls{w:World}{s:Value}{d:Dx}(h:NatAt 0 w s d.xs) :
    Calls Tryz.prog 25 #[.agg #[.bool d.neg,s,.int .i64 d.e]] w fun e w'=>∃ s',e = .returned (.agg #[.bool d.neg,s',.int .i64 d.e])∧NatAt w.heap.size w' s' d.xs∧Below w.heap.size w w':=by
  have HN:=Lib.hid h
  clear h
  obtain ⟨neg,xs,e⟩:=d
  simp only at *
  go_enter Tryz.func25,Tryz.ntmps25
  go_wp2_with (at_builtin;refine wpList_append_copy rfl (w.heap.size+2) rfl (.tmp 3) (.tmp 5) 25 rfl Tryz.underlying25 rfl rfl (cp_row _ _ _ _) (HN.out.below (cp_below _ _ _ _)) (Below.refl _ _) (by rw [cp_size];omega) ?_;intro v3 w3 hn3 hb3 _;obtain ⟨A3,c3,rfl,hh⟩:=hn3;have HN3:Hid (NatAt (w.heap.size+2) w3 (.slice A3 xs.length c3) xs):=Lib.hid ⟨A3,c3,rfl,hh⟩;have HB3:=Lib.hid hb3;have k1:=(cp_box w neg s e).1.mid hb3 (by omega);have k2:=(cp_box w neg s e).2.mid hb3 (by omega);obtain ⟨⟨a1,a2,a3⟩,a4,a5,a6⟩:=k1;obtain ⟨⟨b1,b2,b3⟩,b4,b5,b6⟩:=k2;simp only [Nat.zero_add] at a1 a2 a3 a4 a5 a6 b1 b2 b3 b4 b5 b6;clear hh hb3)
  refine bodyPost_ret (results_dy rfl rfl (Box3.set (Box3.other ⟨⟨b1,b2,b3⟩,b4,b5,b6⟩ (by omega) _) _ _ _)) rfl ?_
  have hb:=(((cp_below w neg s e).trans (HB3.out.mono (by omega))).setCell (p:=⟨w.heap.size,1,none⟩) (Nat.le_refl _) (.slice A3 xs.length c3))
  exact ⟨_,rfl,((HN3.out.set (g:=w.heap.size) (by omega) _).put (g:=w.heap.size+1) (by omega) _ _ _).mono (by omega),Below.put hb (by omega) _ _ _⟩
def fCopy:Spec:=specK [.d] fun (d:Dx)=>(none,dT d)
theorem fCopy_ok:SpecOk Tryz.prog 25 fCopy :=
  handK_ok Tryz.func25 rfl (by decide) fun C w hC hX _=>fun (d:Dx) _ v h _=>by
    obtain ⟨vs,rfl,hl⟩:∃ vs,v = .agg vs.toArray∧RepL C noBox w vs (dyL false d):=by
      obtain ⟨vs,h1,h2⟩:=h;exact ⟨vs,h1,h2⟩
    match vs,hl with
    | [a,b,c],⟨h1,h2,h3,_⟩ =>
      obtain rfl:=rep_bool h1
      obtain rfl:=rep_int h3
      refine (copy4_calls (rep_natAt h2)).mono ?_
      rintro e w' ⟨s',rfl,hn,hb⟩
      exact ⟨_,rfl,⟨[.bool d.neg,s',.int .i64 d.e],rfl,Rep.bool _,rep_new hC hX hn,Rep.int _ _,trivial⟩,hb⟩
def enclB(v u:Vx)(p:Int):Bool:=rightV v && (sameV v (canonV v) && (narrowB v p && (leI (cmpD v.lo u.hi) 0 && leI (cmpD u.lo v.hi) 0)))
def hEncl:Spec:=specK [.v,.v,.i .i64] fun (v:Vx) (u:Vx) (p:Int)=>(some (u.Sm 34359738368),bT (enclB v u p))
theorem hEncl_vc(v u:Vx)(p:Int)(Q:Tv→Prop):execF ⟨tys2,sQh1⟩ (fun _=>none) 0 Tryz.f16 [.agg (ivL false v),.agg (ivL false u),.one (.int .i64 p)] Q=(br (rightV v) (Vx.Sm 65536 v∧br (sameV v (canonV v)) (br (narrowB v p) ((Dx.Sm 34359738368 v.lo∧Dx.Sm 34359738368 u.hi)∧br (leI (cmpD v.lo u.hi) 0) ((Dx.Sm 34359738368 u.lo∧Dx.Sm 34359738368 v.hi)∧true=true∧Q (bT (leI (cmpD u.lo v.hi) 0))) (true=true∧Q (bT false))) (true=true∧Q (bT false))) (true=true∧Q (bT false))) (true=true∧Q (bT false))):=by kernel_rfl
theorem hEncl_ok:SpecOk Tryz.prog 16 hEncl :=
  specK_ok (envOk tys2_ok sQh1_ok) mixed Tryz.func16 rfl (by decide) (by decide) fun (v:Vx) _ (u:Vx) _ (p:Int) _ hp=>⟨fun _=>none,0,by
    have su:u.Sm 34359738368:=hp
    show execF _ _ _ _ _ (fun t=>t=bT (enclB v u p))
    unfold enclB
    refine (hEncl_vc v u p _).mpr (br_intro (fun h=>?_) fun h=>⟨rfl,by rw [h];rfl⟩)
    have sv:=right_sm h
    refine ⟨sv,br_intro (fun h1=>br_intro (fun h2=>⟨⟨sv.1.mono (by omega),su.2⟩,br_intro (fun h3=>⟨⟨su.1,sv.2.mono (by omega)⟩,rfl,?_⟩) fun h3=>⟨rfl,?_⟩⟩) fun h2=>⟨rfl,?_⟩) fun h1=>⟨rfl,?_⟩⟩
    · rw [h,h1,h2,h3];rfl
    · rw [h,h1,h2,h3];rfl
    · rw [h,h1,h2];rfl
    · rw [h,h1];rfl⟩
instance condQ_dec (x:Dx) (p:Int):Decidable (condQ x p):=inferInstanceAs (Decidable (_∧_∧_))
theorem sameV_refl2(v:Vx):sameV v v=true:=by rw [sameV,sameD_refl2,sameD_refl2];rfl
def xVVIv(f:Vx→Vx→Int→Vx):Spec:=specK [.v,.v,.i .i64] fun (v:Vx) (u:Vx) (p:Int)=>(some (v.Sm 268435456∧u.Sm 268435456∧0≤p∧p≤1099511627776),vT (f v u p))
theorem plusV_sm{v u:Vx}{N:Nat}{p:Int}(hv:v.P)(hu:u.P)(sv:v.Sm N)(su:u.Sm N)(hp:0≤p):(plusV v u p).Sm (48*N+7) :=
  (trimV_sm (N:=8*N+1) ⟨plusD_p,plusD_p⟩ ⟨plusD_sm hv.1 hu.1 sv.1 su.1,plusD_sm hv.2 hu.2 sv.2 su.2⟩ hp).mono (by omega)
theorem alt_sum_ge{D:Nat→Rat}(h0:∀ k,0≤D k)(h:∀ k,2*D (k+1)≤D k):∀ n,D n≤sumTo (fun k=>alt k*D k) (n+1)
  | 0=>by
    show D 0≤0+alt 0*D 0
    rw [show alt 0=1 from rfl];grind
  | n+1=>by
    have a:=alt_sum_ge h0 h n
    have c:=h0 n
    have b:=h n
    show D (n+1)≤sumTo (fun k=>alt k*D k) (n+1)+alt (n+1)*D (n+1)
    rcases alt_one (n+1) with e | e<;>rw [e]<;>grind
theorem alt_sum_nonneg{D:Nat→Rat}(h0:∀ k,0≤D k)(h:∀ k,2*D (k+1)≤D k):∀ n,0≤sumTo (fun k=>alt k*D k) n
  | 0=>Rat.le_refl
  | n+1=>Rat.le_trans (h0 n) (alt_sum_ge h0 h n)
theorem c_nonneg{c z:Rat}(hc:6≤c)(h:0≤c*z):0≤z:=Rat.not_lt.1 fun k=>by
  have:=Rat.mul_pos (show 0<c by grind) (show 0 < -z by grind)
  grind
structure Pair (c A B:Nat→Rat) (x y:Rat):Prop where
  c6:∀ k,6≤c k
  a1:∀ k,c k*A (k+1)=x*A k
  b1:∀ k,c k*B (k+1)=y*B k
  y0:0≤y
  yx:y≤x
  x1:x≤1
  b0:0≤B 0
  d0:B 0≤A 0
  i:B 0*(x-y)≤2*(A 0-B 0)
theorem Pair.ind{c A B:Nat→Rat}{x y:Rat}(h:Pair c A B x y):∀ k,0≤B k∧B k≤A k∧B k*(x-y)≤2*(A k-B k)
  | 0=>⟨h.b0,h.d0,h.i⟩
  | k+1=>by
    obtain ⟨p1,p2,p3⟩:=Pair.ind h k
    have ca:=h.a1 k
    have cb:=h.b1 k
    have c6:=h.c6 k
    have yx:=h.yx
    have y0:=h.y0
    have x1:=h.x1
    have n1:=rmN y0 p1
    have n2:=rmN (show 0≤x by grind) (show 0≤A k-B k by grind)
    have n3:=rmN p1 (show 0≤x-y by grind)
    have n4:=rmR (show y≤1 by grind) n3
    refine ⟨c_nonneg c6 (by rw [cb];exact n1),?_,?_⟩
    · have:=c_nonneg (z:=A (k+1)-B (k+1)) c6 (by grind)
      grind
    · have e:c k*(2*(A (k+1)-B (k+1))-B (k+1)*(x-y))=2*(x*A k-y*B k)-y*B k*(x-y):=by rw [←ca,←cb];grind
      have:=c_nonneg (z:=2*(A (k+1)-B (k+1))-B (k+1)*(x-y)) c6 (by rw [e];grind)
      grind
theorem Pair.half{c A B:Nat→Rat}{x y:Rat}(h:Pair c A B x y)(k:Nat):2*(A (k+1)-B (k+1))≤A k-B k:=by
  obtain ⟨p1,p2,p3⟩:=h.ind k
  obtain ⟨q1,q2,q3⟩:=h.ind (k+1)
  have m:=rmR (h.c6 k) (show 0≤A (k+1)-B (k+1) by grind)
  have n:=rmR h.x1 (show 0≤A k-B k by grind)
  have ca:=h.a1 k
  have cb:=h.b1 k
  grind
theorem Pair.le{c A B:Nat→Rat}{x y:Rat}(h:Pair c A B x y)(n:Nat):sumTo (fun k=>alt k*B k) n≤sumTo (fun k=>alt k*A k) n:=by
  have p:=alt_sum_nonneg (D:=fun k=>A k-B k) (fun k=>by have:=(h.ind k).2.1;grind) (fun k=>h.half k) n
  have e:sumTo (fun k=>alt k*(A k-B k)) n=sumTo (fun k=>alt k*A k) n + -1*sumTo (fun k=>alt k*B k) n:=by
    rw [←sumTo_mul,←sumTo_add];exact sumTo_congr fun i _=>by grind
  rw [e] at p
  grind
theorem tmf_mul{f:Nat}(hf:1≤f)(x:Rat)(k:Nat):((f+2*k:Nat):Rat)*((f+2*k+1:Nat):Rat)*tmf f x (k+1)=x*tmf f x k:=by
  have p1:(0:Rat)<((f+2*k:Nat):Rat):=by rw [←Rat.intCast_natCast];exact (cast_lt (a:=0)).2 (by omega)
  have p2:=nat_pos (f+2*k)
  have i1:=Rat.inv_mul_cancel ((f+2*k:Nat):Rat) (by grind)
  have i2:=Rat.inv_mul_cancel ((f+2*k+1:Nat):Rat) (by grind)
  rw [tmf]
  generalize ((f+2*k:Nat):Rat)=u at *
  generalize ((f+2*k+1:Nat):Rat)=v at *
  have e:u*v*(tmf f x k*x*u⁻¹*v⁻¹)=tmf f x k*x*(u⁻¹*u)*(v⁻¹*v):=by grind
  rw [e,i1,i2]
  grind
theorem coef6{a b:Nat}(ha:2≤a)(hb:3≤b):(6:Rat)≤(a:Rat)*(b:Rat):=by
  have a1:(2:Rat)≤(a:Rat):=by rw [←Rat.intCast_natCast];exact (cast_le (a:=2)).2 (by omega)
  have a2:(3:Rat)≤(b:Rat):=by rw [←Rat.intCast_natCast];exact (cast_le (a:=3)).2 (by omega)
  have b1:=rmR a1 (show 0≤(b:Rat) by grind)
  grind
theorem sinS_mono0{s t:Rat}(h0:0≤s)(h:s≤t)(h1:t≤1)(n:Nat):sinS s n≤sinS t n:=by
  have y:s*s≤t*t:=by
    have a:=rmL h h0
    have b:=rmR h (show 0≤t by grind)
    grind
  have x1:t*t≤1:=by have:=rmL h1 (show 0≤t by grind);grind
  have p:Pair (fun k=>((2+2*k:Nat):Rat)*((2+2*k+1:Nat):Rat)) (fun k=>t*tmf 2 (t*t) k) (fun k=>s*tmf 2 (s*s) k) (t*t) (s*s) :=
    { c6:=fun k=>coef6 (by omega) (by omega),a1:=fun k=>by have:=tmf_mul (f:=2) (by omega) (t*t) k;grind,b1:=fun k=>by have:=tmf_mul (f:=2) (by omega) (s*s) k;grind,
      y0:=rmN h0 h0,yx:=y,x1:=x1,b0:=by show 0≤s*1;grind,d0:=by show s*1≤t*1;grind,
      i:=by
        show s*1*(t*t-s*s)≤2*(t*1-s*1)
        have a:=rmR (show t+s≤2 by grind) (show 0≤t-s by grind)
        have b:=rmR (show s≤1 by grind) (show 0≤t*t-s*s by grind)
        grind }
  have e:∀ u:Rat,sinS u n=sumTo (fun k=>alt k*(u*tmf 2 (u*u) k)) n:=fun u=>sumTo_congr fun i _=>by rw [sinT,dpw_odd]
  rw [e,e]
  exact p.le n
theorem sinS_zero(n:Nat):sinS 0 n=0:=by rw [sinS_alt,Rat.zero_mul]
theorem sinS_mono{s t:Rat}(h0:-1≤s)(h:s≤t)(h1:t≤1)(n:Nat):sinS s n≤sinS t n:=by
  rcases (show 0≤s∨s≤0 by grind) with a | a
  · exact sinS_mono0 a h h1 n
  · have e:sinS s n = -sinS (-s) n:=by rw [←sinS_neg,Rat.neg_neg]
    rcases (show 0≤t∨t≤0 by grind) with b | b
    · have c:=sinS_mono0 (Rat.le_refl (a:=0)) b h1 n
      have d:=sinS_mono0 (Rat.le_refl (a:=0)) (show 0≤-s by grind) (by grind) n
      rw [sinS_zero] at c d
      grind
    · have e':sinS t n = -sinS (-t) n:=by rw [←sinS_neg,Rat.neg_neg]
      have d:=sinS_mono0 (show 0≤-t by grind) (show -t≤-s by grind) (by grind) n
      grind
theorem cosS_anti{s t:Rat}(h:s*s≤t*t)(h1:t*t≤1)(n:Nat):cosS t n≤cosS s n:=by
  have s0:0≤s*s:=by
    rcases (show 0≤s∨s≤0 by grind) with a | a
    · exact rmN a a
    · have:=rmN (show 0≤-s by grind) (show 0≤-s by grind);grind
  have m0:∀ u:Rat,2*tmf 1 u 1=u:=fun u=>by
    have:=tmf_mul (f:=1) (by omega) u 0
    have e1:((1+2*0:Nat):Rat)*((1+2*0+1:Nat):Rat)=2:=by decide +kernel
    rw [e1] at this
    rw [this];show u*1=u;grind
  have p:Pair (fun k=>((1+2*(k+1):Nat):Rat)*((1+2*(k+1)+1:Nat):Rat)) (fun k=>tmf 1 (t*t) (k+1)) (fun k=>tmf 1 (s*s) (k+1)) (t*t) (s*s) :=
    { c6:=fun k=>coef6 (by omega) (by omega),a1:=fun k=>tmf_mul (f:=1) (by omega) (t*t) (k+1),b1:=fun k=>tmf_mul (f:=1) (by omega) (s*s) (k+1),
      y0:=s0,yx:=h,x1:=h1,b0:=by have:=m0 (s*s);show 0≤tmf 1 (s*s) 1;grind,d0:=by have:=m0 (s*s);have:=m0 (t*t);show tmf 1 (s*s) 1≤tmf 1 (t*t) 1;grind,
      i:=by
        have a:=m0 (s*s)
        have b:=m0 (t*t)
        show tmf 1 (s*s) 1*(t*t-s*s)≤2*(tmf 1 (t*t) 1-tmf 1 (s*s) 1)
        have c:=rmR (show tmf 1 (s*s) 1≤1 by grind) (show 0≤t*t-s*s by grind)
        grind }
  have e:∀ u:Rat,cosS u n=sumTo (fun k=>alt k*tmf 1 (u*u) k) n:=fun u=>cosS_alt u n
  cases n with
  | zero=>exact Rat.le_refl
  | succ n =>
    rw [e,e,sumTo_head,sumTo_head]
    have q:=p.le n
    have g:∀ u:Rat,sumTo (fun i=>alt (i+1)*tmf 1 u (i+1)) n = -1*sumTo (fun i=>alt i*tmf 1 u (i+1)) n:=fun u=>by
      rw [←sumTo_mul];exact sumTo_congr fun i _=>by rw [alt_succ];grind
    rw [g,g]
    show alt 0*1+_≤alt 0*1+_
    grind
theorem Enc.le{s t:Nat→Rat}{a b c d:Rat}(h:Enc s a b)(k:Enc t c d)(hs:∀ n,s n≤t n):a≤d:=by
  refine Rat.not_lt.1 fun g=>?_
  obtain ⟨N,hN⟩:=h ((a-d)/4) (by grind)
  obtain ⟨M,hM⟩:=k ((a-d)/4) (by grind)
  have x:=(hN (N+M) (by omega)).1
  have y:=(hM (N+M) (by omega)).2
  have z:=hs (N+M)
  grind
def Rel(ε x y:Rat):Prop:=(x-y≤ε*y∧y-x≤ε*y)∨(x-y≤-(ε*y)∧y-x≤-(ε*y))
theorem min_close{a1 b1 a2 b2 c1 d1 c2 d2 m y δ:Rat}(h1:Nar δ a1 b1)(h2:Nar δ a2 b2)(k1:Nar δ c1 d1)(k2:Nar δ c2 d2)(x1:a1≤d1)(x2:c1≤b1)(x3:a2≤d2)(x4:c2≤b2)
    (m1:m≤a1) (m2:m≤a2) (mm:m=a1∨m=b1∨m=a2∨m=b2) (y1:y≤c1) (y2:y≤c2) (yy:y=c1∨y=c2):m≤y+δ*y∧y≤m+δ*m:=by
  obtain ⟨a0,ab,e1⟩:=h1
  obtain ⟨a0',ab',e1'⟩:=h2
  obtain ⟨c0,cd,f1⟩:=k1
  obtain ⟨c0',cd',f1'⟩:=k2
  have M:m=a1∨m=a2:=by grind
  refine ⟨?_,?_⟩
  · rcases yy with rfl | rfl<;>grind
  · rcases M with rfl | rfl<;>grind
theorem max_close{a1 b1 a2 b2 c1 d1 c2 d2 m y δ:Rat}(d0:0≤δ)(h1:Nar δ a1 b1)(h2:Nar δ a2 b2)(k1:Nar δ c1 d1)(k2:Nar δ c2 d2)(x1:a1≤d1)(x2:c1≤b1)(x3:a2≤d2)(x4:c2≤b2)
    (m1:b1≤m) (m2:b2≤m) (mm:m=a1∨m=b1∨m=a2∨m=b2) (y1:d1≤y) (y2:d2≤y) (yy:y=d1∨y=d2):m≤y+δ*y∧y≤m+δ*m:=by
  obtain ⟨a0,ab,e1⟩:=h1
  obtain ⟨a0',ab',e1'⟩:=h2
  obtain ⟨c0,cd,f1⟩:=k1
  obtain ⟨c0',cd',f1'⟩:=k2
  have M:m=b1∨m=b2:=by grind
  have q1:=rmL (show a1≤y by grind) d0
  have q2:=rmL (show a2≤y by grind) d0
  have q3:=rmL (show c1≤m by grind) d0
  have q4:=rmL (show c2≤m by grind) d0
  refine ⟨?_,?_⟩
  · rcases M with e | e<;>grind
  · rcases yy with e | e<;>grind
theorem dn_close{q:Int}{m c y δ ε:Rat}(h:Dn q m c)(hq:1≤q)(m0:0<m)(d0:0≤δ)(d1:δ≤1)(k1:m≤y+δ*y)(k2:y≤m+δ*m)(he:2*(δ+eps q)≤ε):Rel ε c y:=by
  obtain ⟨r1,r2⟩:=h.rel hq m0
  have r3:=h.2.1
  have e0:=eps_pos q
  have y0:0<y:=Rat.not_le.1 fun g=>by
    have:=rmL g d0
    grind
  have t1:=rmR d1 (rlL y0)
  have t2:=rmL (show m≤2*y by grind) (show 0≤δ+eps q by grind)
  have t3:=rmR he (rlL y0)
  have t4:=rmN (rlL e0) (rlL y0)
  have t5:=rmN d0 (rlL y0)
  exact .inl ⟨by grind,by grind⟩
theorem up_close{q:Int}{m c y δ ε:Rat}(h:Up q m c)(hq:1≤q)(m0:0<m)(d0:0≤δ)(d1:δ≤1)(k1:m≤y+δ*y)(k2:y≤m+δ*m)(he:2*(δ+eps q)≤ε):Rel ε c y:=by
  have r1:=h.rel hq m0
  have r3:=h.2.1
  have e0:=eps_pos q
  have y0:0<y:=Rat.not_le.1 fun g=>by
    have:=rmL g d0
    grind
  have t1:=rmR d1 (rlL y0)
  have t2:=rmL (show m≤2*y by grind) (show 0≤δ by grind)
  have t6:=rmL (show m≤2*y by grind) (rlL e0)
  have t3:=rmR he (rlL y0)
  have t4:=rmN (rlL e0) (rlL y0)
  have t5:=rmN d0 (rlL y0)
  exact .inl ⟨by grind,by grind⟩
theorem sgn_le0{d:Dx}(h:0≤d.m):d.sgn≤0↔d.rv≤0:=by
  rcases sgn_rv h with ⟨a,b⟩|⟨a,b⟩|⟨a,b⟩
  · rw [a,b];simp
  · exact ⟨fun k=>by omega,fun k=>by exfalso;grind⟩
  · exact ⟨fun _=>rlL b,fun _=>by omega⟩
theorem sgn_ge0{d:Dx}(h:0≤d.m):0≤d.sgn↔0≤d.rv:=by
  rcases sgn_rv h with ⟨a,b⟩|⟨a,b⟩|⟨a,b⟩
  · rw [a,b];simp
  · exact ⟨fun _=>rlL b,fun _=>by omega⟩
  · exact ⟨fun k=>by omega,fun k=>by exfalso;grind⟩
theorem zeroV_rv{v:Vx}(hv:v.P):zeroV v=true↔v.lo.rv≤0∧0≤v.hi.rv:=by
  unfold zeroV
  rw [Bool.and_eq_true,decide_eq_true_eq,decide_eq_true_eq,sgn_le0 hv.1,sgn_ge0 hv.2]
theorem hull_lo(a b:Vx):(hullV a b).lo.rv≤a.lo.rv∧(hullV a b).lo.rv≤b.lo.rv∧((hullV a b).lo=a.lo∨(hullV a b).lo=b.lo):=by
  by_cases h:cmpD b.lo a.lo<0
  · have e:(hullV a b).lo=b.lo:=if_pos h
    have:=cmpD_lt0.1 h
    rw [e];exact ⟨by grind,Rat.le_refl,.inr rfl⟩
  · have e:(hullV a b).lo=a.lo:=if_neg h
    have:=fun k=>h (cmpD_lt0.2 k)
    rw [e];exact ⟨Rat.le_refl,by grind,.inl rfl⟩
theorem hull_hi(a b:Vx):a.hi.rv≤(hullV a b).hi.rv∧b.hi.rv≤(hullV a b).hi.rv∧((hullV a b).hi=a.hi∨(hullV a b).hi=b.hi):=by
  by_cases h:0<cmpD b.hi a.hi
  · have e:(hullV a b).hi=b.hi:=if_pos h
    have:=cmpD_gt0.1 h
    rw [e];exact ⟨by grind,Rat.le_refl,.inr rfl⟩
  · have e:(hullV a b).hi=a.hi:=if_neg h
    have:=fun k=>h (cmpD_gt0.2 k)
    rw [e];exact ⟨Rat.le_refl,by grind,.inl rfl⟩
structure CosB (v:Vx) (p:Int) (X Y:Vx):Prop where
  xp:X.P
  yp:Y.P
  lo:p2 (-2)≤X.lo.rv∧X.lo.rv≤p2 2
  hi:p2 (-2)≤X.hi.rv∧X.hi.rv≤p2 2
  le:X.lo.rv≤X.hi.rv
  c1:X.lo.rv≤Y.lo.rv+p2 (-24-p)*Y.lo.rv∧Y.lo.rv≤X.lo.rv+p2 (-24-p)*X.lo.rv
  c2:X.hi.rv≤Y.hi.rv+p2 (-24-p)*Y.hi.rv∧Y.hi.rv≤X.hi.rv+p2 (-24-p)*X.hi.rv
  has:∀ x a b,v.lo.rv≤x→x≤v.hi.rv→Enc (cosS x) a b→X.lo.rv≤b∧a≤X.hi.rv
theorem sqr_mono{x y:Rat}(h0:0≤x)(h:x≤y):x*x≤y*y:=by
  have a:=rmL h h0
  have b:=rmR h (show 0≤y by grind)
  grind
theorem sqr_mono'{x y:Rat}(h0:y≤0)(h:x≤y):y*y≤x*x:=by
  have:=sqr_mono (x:=-y) (y:=-x) (by grind) (by grind)
  grind
theorem cosines_ok{v:Vx}{p:Int}(hv:v.P)(f1:small1 v.lo)(f2:small1 v.hi)(hl:v.lo.rv≤v.hi.rv)(p0:0≤p)(p1:p≤8000):CosB v p (cosinesV (onesV v) p) (cosinesH v p):=by
  have A:=cosineV_iv (t:=oneD v.lo) (p:=p) oneD_p (small_one hv.1 f1) p0 (by omega)
  have B:=cosineV_iv (t:=oneD v.hi) (p:=p) oneD_p (small_one hv.2 f2) p0 (by omega)
  have C:=cosineH_iv (p:=p) hv.1 f1 p0 (by omega)
  have D:=cosineH_iv (p:=p) hv.2 f2 p0 (by omega)
  rw [rv_one hv.1] at A
  rw [rv_one hv.2] at B
  have sl:=span4_lo (cosineV (oneD v.lo) p).lo (cosineV (oneD v.lo) p).hi (cosineV (oneD v.hi) p).lo (cosineV (oneD v.hi) p).hi
  have sh:=span4_hi (cosineV (oneD v.lo) p).lo (cosineV (oneD v.lo) p).hi (cosineV (oneD v.hi) p).lo (cosineV (oneD v.hi) p).hi
  have sp:=span4_p A.1.1 A.1.2 B.1.1 B.1.2
  have hL:=hull_lo (cosineH v.lo p) (cosineH v.hi p)
  have hH:=hull_hi (cosineH v.lo p) (cosineH v.hi p)
  have z:zeroV (onesV v)=zeroV v:=by
    unfold zeroV onesV
    show (decide ((oneD v.lo).sgn≤0) && decide (0≤(oneD v.hi).sgn))=_
    rw [one_sgn _ hv.1,one_sgn _ hv.2]
  have lo1:(cosinesV (onesV v) p).lo=(spanL (cosineV (oneD v.lo) p).lo [(cosineV (oneD v.lo) p).hi,(cosineV (oneD v.hi) p).lo,(cosineV (oneD v.hi) p).hi]).lo:=by
    unfold cosinesV;split<;>rfl
  have lo2:(cosinesH v p).lo=(hullV (cosineH v.lo p) (cosineH v.hi p)).lo:=by
    unfold cosinesH;split<;>rfl
  have hi1:zeroV v=false→(cosinesV (onesV v) p).hi=(spanL (cosineV (oneD v.lo) p).lo [(cosineV (oneD v.lo) p).hi,(cosineV (oneD v.hi) p).lo,(cosineV (oneD v.hi) p).hi]).hi:=fun h=>by
    unfold cosinesV;rw [z,h];rfl
  have hi2:zeroV v=false→(cosinesH v p).hi=(hullV (cosineH v.lo p) (cosineH v.hi p)).hi:=fun h=>by
    unfold cosinesH;rw [h];rfl
  have hz1:zeroV v=true→(cosinesV (onesV v) p).hi=mkS 1 0:=fun h=>by
    unfold cosinesV;rw [z,h];rfl
  have hz2:zeroV v=true→(cosinesH v p).hi=mkS 1 0:=fun h=>by
    unfold cosinesH;rw [h];rfl
  have r:(mkS 1 0).rv=1:=rv_int 1
  have dd:p2 (-40-p)≤p2 (-24-p):=p2_le (by omega)
  have d0:=rlL (p2_pos (-24-p))
  have nA:=A.2.2.nar.mono dd
  have nB:=B.2.2.nar.mono dd
  have nC:=C.2.2.nar
  have nD:=D.2.2.nar
  have x1:=A.2.1.meets C.2.1
  have x2:=C.2.1.meets A.2.1
  have x3:=B.2.1.meets D.2.1
  have x4:=D.2.1.meets B.2.1
  have lA:=A.2.2.lo
  have hA:=A.2.2.hi
  have lB:=B.2.2.lo
  have hB:=B.2.2.hi
  have mm:=sl.2.2.2.2
  have MM:=sh.2.2.2.2
  have one1:p2 (-2)≤1∧(1:Rat)≤p2 2:=by
    have a:=p2_le (show (-2:Int)≤0 by omega)
    have b:=p2_le (show (0:Int)≤2 by omega)
    rw [p2_zero] at a b
    exact ⟨a,b⟩
  have bdA:=(cosS_bd f1.2 f1.1 A.2.1).1
  have min:=min_close (m:=(spanL (cosineV (oneD v.lo) p).lo [(cosineV (oneD v.lo) p).hi,(cosineV (oneD v.hi) p).lo,(cosineV (oneD v.hi) p).hi]).lo.rv) (y:=(hullV (cosineH v.lo p) (cosineH v.hi p)).lo.rv) nA nB nC nD x1 x2 x3 x4 sl.1 sl.2.2.1 (by rcases mm with e | e | e | e<;>rw [e]<;>simp) hL.1 hL.2.1 (by rcases hL.2.2 with e | e<;>rw [e]<;>simp)
  have max:=max_close (m:=(spanL (cosineV (oneD v.lo) p).lo [(cosineV (oneD v.lo) p).hi,(cosineV (oneD v.hi) p).lo,(cosineV (oneD v.hi) p).hi]).hi.rv) (y:=(hullV (cosineH v.lo p) (cosineH v.hi p)).hi.rv) d0 nA nB nC nD x1 x2 x3 x4 sh.2.1 sh.2.2.2.1 (by rcases MM with e | e | e | e<;>rw [e]<;>simp) hH.1 hH.2.1 (by rcases hH.2.2 with e | e<;>rw [e]<;>simp)
  have X0:=nA.2.1
  have X1:=nB.2.1
  have Lo:p2 (-2)≤(cosinesV (onesV v) p).lo.rv∧(cosinesV (onesV v) p).lo.rv≤p2 2:=by
    rw [lo1]
    refine ⟨?_,by grind⟩
    rcases mm with e | e | e | e<;>rw [e]<;>grind
  have q1:small1 v.lo:=f1
  refine ⟨⟨by rw [lo1];exact sp.1,?_⟩,⟨?_,?_⟩,Lo,?_,?_,by rw [lo1,lo2];exact min,?_,?_⟩
  · cases h:zeroV v with
    | true=>rw [hz1 h];exact mkS_p
    | false=>rw [hi1 h];exact sp.2
  · rw [lo2]
    rcases hL.2.2 with e | e<;>rw [e]
    · exact C.1.p.1
    · exact D.1.p.1
  · cases h:zeroV v with
    | true=>rw [hz2 h];exact mkS_p
    | false =>
      rw [hi2 h]
      rcases hH.2.2 with e | e<;>rw [e]
      · exact C.1.p.2
      · exact D.1.p.2
  · cases h:zeroV v with
    | true=>rw [hz1 h,r];exact one1
    | false =>
      rw [hi1 h]
      refine ⟨by grind,?_⟩
      rcases MM with e | e | e | e<;>rw [e]<;>grind
  · cases h:zeroV v with
    | true=>rw [hz1 h,r,lo1];grind
    | false=>rw [hi1 h,lo1];grind
  · cases h:zeroV v with
    | true=>rw [hz1 h,hz2 h,r];exact ⟨by grind,by grind⟩
    | false=>rw [hi1 h,hi2 h];exact max
  · intro x a b h1 h2 E
    have b1:x*x≤1:=sqr_le1 (by have:=f2.1;grind) (by have:=f1.2;grind)
    have c1:v.lo.rv*v.lo.rv≤1:=sqr_le1 f1.1 f1.2
    have c2:v.hi.rv*v.hi.rv≤1:=sqr_le1 f2.1 f2.2
    refine ⟨?_,?_⟩
    · rw [lo1]
      rcases (show 0≤x∨x≤0 by grind) with g | g
      · have:=B.2.1.le E (fun n=>cosS_anti (sqr_mono g h2) c2 n)
        grind
      · have:=A.2.1.le E (fun n=>cosS_anti (sqr_mono' g h1) c1 n)
        grind
    · cases h:zeroV v with
      | true =>
        rw [hz1 h,r]
        exact (cosS_bd (t:=x) (by have:=f1.2;grind) (by have:=f2.1;grind) E).1
      | false =>
        rw [hi1 h]
        rcases (show 0<v.lo.rv∨v.hi.rv<0 by
          have:=fun k=>(by rw [(zeroV_rv hv).2 k] at h;exact absurd h (by simp):False)
          grind) with g | g
        · have:=E.le A.2.1 (fun n=>cosS_anti (sqr_mono (rlL g) h1) b1 n)
          grind
        · have:=E.le B.2.1 (fun n=>cosS_anti (sqr_mono' (rlL g) h2) b1 n)
          grind
theorem fits_end{d:Dx}{q:Int}{up:Bool}{x:Rat}(hd:0≤d.m)(h:Rp q (cutD d q up).rv)(q0:1≤q)(q1:q≤8000)(x0:p2 (-3)≤x)(x1:x≤p2 3)(e:(cutD d q up).rv=x):(cutD d q up).fitsB=true:=by
  have p:=p2_pos (-3)
  have a:=(rv_amt (d:=cutD d q up) cutD_p).1 (by rw [e];grind)
  rw [e] at a
  exact fits_rp (cutD_f hd) h (by omega) (fun _=>by rw [←a];exact x0) (by rw [←a];exact x1) (by omega) (by omega)
theorem cos_cut{v:Vx}{p:Int}{X Y:Vx}(K:CosB v p X Y)(p0:0≤p)(p1:p≤7000) :
    rightV (trimV X (p+8))=true∧Rel (p2 (2-p)) (trimV X (p+8)).lo.rv Y.lo.rv∧Rel (p2 (2-p)) (trimV X (p+8)).hi.rv Y.hi.rv∧(trimV X (p+8)).lo.rv≤X.lo.rv∧X.hi.rv≤(trimV X (p+8)).hi.rv:=by
  obtain ⟨b1,b2⟩:=trim_best K.xp (p:=p+8) (by omega)
  have q2:=p2_pos (-2)
  have r1:=b1.rel (by omega) (show 0<X.lo.rv by have:=K.lo.1;grind)
  have r2:=b2.rel (by omega) (show 0<X.hi.rv by have:=K.hi.1;grind)
  have e:eps (p+8)=p2 (-7-p):=by unfold eps;congr 1;omega
  have e1:eps (p+8)≤p2 (-1):=by rw [e];exact p2_le (by omega)
  have hf:=p2_half (-1)
  rw [show (-1+1:Int)=0 by omega,p2_zero] at hf
  have t1:=rmR e1 (show 0≤X.lo.rv by have:=K.lo.1;grind)
  have t2:=rmR e1 (show 0≤X.hi.rv by have:=K.hi.1;grind)
  have h3:=p2_half (-3)
  rw [show (-3+1:Int) = -2 by omega] at h3
  have h2:=p2_half 2
  rw [show (2+1:Int)=3 by omega] at h2
  have g23:p2 2≤p2 3:=p2_le (by omega)
  have l1:=K.lo.1
  have l2:=K.lo.2
  have l3:=K.hi.1
  have l4:=K.hi.2
  have hl:=b1.2.1
  have hh:=b2.2.1
  have x2:p2 (-1)*X.lo.rv+p2 (-1)*X.lo.rv=X.lo.rv:=by grind
  have x3:p2 (-1)*X.hi.rv+p2 (-1)*X.hi.rv=X.hi.rv:=by grind
  have f1:(trimV X (p+8)).lo.fitsB=true:=fits_end K.xp.1 b1.1 (by omega) (by omega) (x:=(trimV X (p+8)).lo.rv) (by grind) (by grind) rfl
  have f2:(trimV X (p+8)).hi.fitsB=true:=fits_end K.xp.2 b2.1 (by omega) (by omega) (x:=(trimV X (p+8)).hi.rv) (by grind) (by grind) rfl
  have d0:=rlL (p2_pos (-24-p))
  have d1:p2 (-24-p)≤1:=by have:=p2_le (show -24-p≤0 by omega);rwa [p2_zero] at this
  have he:2*(p2 (-24-p)+eps (p+8))≤p2 (2-p):=by
    have a:=p2_le (show -24-p≤-7-p by omega)
    have b:=p2_dbl (-7-p)
    have c:=p2_half (-7-p+1)
    have d:=p2_le (show -7-p+1+1≤2-p by omega)
    rw [e];grind
  exact ⟨right_of f1 f2 (by have:=K.le;grind),dn_close b1 (by omega) (by grind) d0 d1 K.c1.1 K.c1.2 he,up_close b2 (by omega) (by grind) d0 d1 K.c2.1 K.c2.2 he,hl,hh⟩
theorem altS2_anti{x y:Rat}(x0:0≤x)(h:x≤y)(h1:y≤1)(n:Nat):altS 2 y n≤altS 2 x n:=by
  have m0:∀ u:Rat,6*tmf 2 u 1=u:=fun u=>by
    have:=tmf_mul (f:=2) (by omega) u 0
    have e1:((2+2*0:Nat):Rat)*((2+2*0+1:Nat):Rat)=6:=by decide +kernel
    rw [e1] at this
    rw [this];show u*1=u;grind
  have p:Pair (fun k=>((2+2*(k+1):Nat):Rat)*((2+2*(k+1)+1:Nat):Rat)) (fun k=>tmf 2 y (k+1)) (fun k=>tmf 2 x (k+1)) y x :=
    { c6:=fun k=>coef6 (by omega) (by omega),a1:=fun k=>tmf_mul (f:=2) (by omega) y (k+1),b1:=fun k=>tmf_mul (f:=2) (by omega) x (k+1),
      y0:=x0,yx:=h,x1:=h1,b0:=by have:=m0 x;show 0≤tmf 2 x 1;grind,d0:=by have:=m0 x;have:=m0 y;show tmf 2 x 1≤tmf 2 y 1;grind,
      i:=by
        have a:=m0 x
        have b:=m0 y
        show tmf 2 x 1*(y-x)≤2*(tmf 2 y 1-tmf 2 x 1)
        have c:=rmR (show tmf 2 x 1≤1/6 by grind) (show 0≤y-x by grind)
        grind }
  have e:∀ u:Rat,altS 2 u n=sumTo (fun k=>alt k*tmf 2 u k) n:=fun u=>rfl
  cases n with
  | zero=>exact Rat.le_refl
  | succ n =>
    rw [e,e,sumTo_head,sumTo_head]
    have q:=p.le n
    have g:∀ u:Rat,sumTo (fun i=>alt (i+1)*tmf 2 u (i+1)) n = -1*sumTo (fun i=>alt i*tmf 2 u (i+1)) n:=fun u=>by
      rw [←sumTo_mul];exact sumTo_congr fun i _=>by rw [alt_succ];grind
    rw [g,g]
    show alt 0*1+_≤alt 0*1+_
    grind
theorem sin_ratio{a b:Rat}(a0:0≤a)(h:a≤b)(h1:b≤1)(n:Nat):a*sinS b n≤b*sinS a n:=by
  have b0:0≤b:=by grind
  have b1:b*b≤1:=by have:=rmL h1 b0;grind
  have m:=altS2_anti (x:=a*a) (y:=b*b) (rmN a0 a0) (sqr_mono a0 h) b1 n
  rw [sinS_alt,sinS_alt]
  have:=rmL m (rmN a0 b0)
  grind
theorem cos_diff{s t:Rat}(h:s*s≤t*t)(h1:t*t≤1)(n:Nat):cosS s n-cosS t n≤(t*t-s*s)/2:=by
  have s0:0≤s*s:=by
    rcases (show 0≤s∨s≤0 by grind) with a | a
    · exact rmN a a
    · have:=rmN (show 0≤-s by grind) (show 0≤-s by grind);grind
  have m0:∀ u:Rat,2*tmf 1 u 1=u:=fun u=>by
    have:=tmf_mul (f:=1) (by omega) u 0
    have e1:((1+2*0:Nat):Rat)*((1+2*0+1:Nat):Rat)=2:=by decide +kernel
    rw [e1] at this
    rw [this];show u*1=u;grind
  have p:Pair (fun k=>((1+2*(k+1):Nat):Rat)*((1+2*(k+1)+1:Nat):Rat)) (fun k=>tmf 1 (t*t) (k+1)) (fun k=>tmf 1 (s*s) (k+1)) (t*t) (s*s) :=
    { c6:=fun k=>coef6 (by omega) (by omega),a1:=fun k=>tmf_mul (f:=1) (by omega) (t*t) (k+1),b1:=fun k=>tmf_mul (f:=1) (by omega) (s*s) (k+1),
      y0:=s0,yx:=h,x1:=h1,b0:=by have:=m0 (s*s);show 0≤tmf 1 (s*s) 1;grind,d0:=by have:=m0 (s*s);have:=m0 (t*t);show tmf 1 (s*s) 1≤tmf 1 (t*t) 1;grind,
      i:=by
        have a:=m0 (s*s)
        have b:=m0 (t*t)
        show tmf 1 (s*s) 1*(t*t-s*s)≤2*(tmf 1 (t*t) 1-tmf 1 (s*s) 1)
        have c:=rmR (show tmf 1 (s*s) 1≤1 by grind) (show 0≤t*t-s*s by grind)
        grind }
  have dn:∀ k,0≤tmf 1 (t*t) (k+1)-tmf 1 (s*s) (k+1):=fun k=>by have:=(p.ind k).2.1;grind
  have key:∀ m,sumTo (fun k=>alt k*(tmf 1 (t*t) (k+1)-tmf 1 (s*s) (k+1))) m≤tmf 1 (t*t) 1-tmf 1 (s*s) 1:=fun m=>by
    cases m with
    | zero=>exact dn 0
    | succ m =>
      rw [sumTo_head]
      have q:=alt_sum_nonneg (D:=fun k=>tmf 1 (t*t) (k+1+1)-tmf 1 (s*s) (k+1+1)) (fun k=>dn (k+1)) (fun k=>p.half (k+1)) m
      have g:sumTo (fun i=>alt (i+1)*(tmf 1 (t*t) (i+1+1)-tmf 1 (s*s) (i+1+1))) m = -1*sumTo (fun i=>alt i*(tmf 1 (t*t) (i+1+1)-tmf 1 (s*s) (i+1+1))) m:=by
        rw [←sumTo_mul];exact sumTo_congr fun i _=>by rw [alt_succ];grind
      rw [g]
      show alt 0*(tmf 1 (t*t) 1-tmf 1 (s*s) 1)+_≤_
      have a0:alt 0=1:=rfl
      rw [a0];grind
  have e:∀ u:Rat,cosS u n=sumTo (fun k=>alt k*tmf 1 (u*u) k) n:=fun u=>cosS_alt u n
  have m1:=m0 (s*s)
  have m2:=m0 (t*t)
  cases n with
  | zero =>
    have z:∀ u:Rat,cosS u 0=0:=fun _=>rfl
    rw [z,z];grind
  | succ n =>
    rw [e,e,sumTo_head,sumTo_head]
    have g:∀ u:Rat,sumTo (fun i=>alt (i+1)*tmf 1 u (i+1)) n = -1*sumTo (fun i=>alt i*tmf 1 u (i+1)) n:=fun u=>by
      rw [←sumTo_mul];exact sumTo_congr fun i _=>by rw [alt_succ];grind
    rw [g,g]
    have q:=key n
    have e2:sumTo (fun k=>alt k*(tmf 1 (t*t) (k+1)-tmf 1 (s*s) (k+1))) n=sumTo (fun k=>alt k*tmf 1 (t*t) (k+1)) n + -1*sumTo (fun k=>alt k*tmf 1 (s*s) (k+1)) n:=by
      rw [←sumTo_mul,←sumTo_add];exact sumTo_congr fun i _=>by grind
    rw [e2] at q
    show (alt 0*1+_)-(alt 0*1+_)≤_
    grind
theorem sin_nar{a b l1 h1 l2 h2 δ ε:Rat}(hab:Nar δ a b)(b1:b≤1)(e1:Enc (sinS a) l1 h1)(e2:Enc (sinS b) l2 h2)(n1:Nar ε l1 h1)(n2:Nar ε l2 h2)(d0:0≤δ)(d1:δ≤1/8)(f0:0≤ε)(f1:ε≤1/8):Nar (2*δ+4*ε) l1 h2:=by
  obtain ⟨a0,ab,bd⟩:=hab
  obtain ⟨x0,x1,x2⟩:=n1
  obtain ⟨y0,y1,y2⟩:=n2
  have r:a*l2≤b*h1:=Enc.le (e2.scale (c:=a) (by grind)) (e1.scale (c:=b) (by grind)) (fun n=>sin_ratio (by grind) ab b1 n)
  have m:l1≤h2:=Enc.le e1 e2 (fun n=>sinS_mono (by grind) ab b1 n)
  refine ⟨x0,m,?_⟩
  have s1:=rmR bd (show 0≤h1 by grind)
  have s2:=rmL x2 (show 0≤a+δ*a by have:=rmN d0 (rlL a0);grind)
  have t:l2≤(1+δ)*(l1+ε*l1):=by
    rw [←Rat.not_lt];intro hlt
    have:=Rat.mul_lt_mul_of_pos_left hlt a0
    grind
  have u0:=rmN f0 (rlL x0)
  have u1:=rmR f1 (show 0≤l2 by grind)
  have v1:=rmL t f0
  have w1:=rmR d1 u0
  have w2:=rmR f1 u0
  have w3:=rmR f1 (rmN d0 (rlL x0))
  have w4:=rmN d0 (rlL x0)
  have w5:=rmL w2 d0
  have w6:=rmL w2 (Rat.le_refl (a:=0))
  have w7:=rmN d0 u0
  have w8:=rmR f1 w7
  grind
def VN(δ:Rat)(v:Vx):Prop:=(v.lo.rv=0∧v.hi.rv=0)∨NarV δ v
structure SinB (δ L H:Rat) (v X:Vx):Prop where
  p:X.P
  vm:VM δ L H X
  has:∀ x a b,v.lo.rv≤x→x≤v.hi.rv→Enc (sinS x) a b→X.lo.rv≤b∧a≤X.hi.rv
theorem sinS_bd'{t:Rat}(t0:t<0)(t1:-1≤t){a b:Rat}(h:Enc (sinS t) a b):a<0:=by
  have e:(fun n=>-sinS t n)=sinS (-t):=by funext n;rw [sinS_neg]
  have k:=h.neg
  rw [e] at k
  have:=(sinS_bd (t:=-t) (by grind) (by grind) k).2
  have m:=rmL (show (-t)*(-t)≤1 by have:=rmL (show -t≤1 by grind) (show 0≤-t by grind);grind) (show 0≤-t by grind)
  grind
theorem sinS_bd0{t:Rat}(t0:0<t)(t1:t≤1){a b:Rat}(h:Enc (sinS t) a b):0<b:=by
  have:=(sinS_bd t0 t1 h).2
  have m:=rmL (show t*t≤1 by have:=rmL t1 (show 0≤t by grind);grind) (show 0≤t by grind)
  grind
theorem sines_nar{v:Vx}{p:Int}{δ:Rat}{A:Int}(hv:v.P)(f1:small1 v.lo)(f2:small1 v.hi)(hn:NarV δ v)(hA:p2 A≤v.lo.rv∨p2 A≤-v.hi.rv)(d0:0≤δ)(d1:δ≤1/8)(p0:0≤p)(p1:p≤8000) :
    SinB (2*δ+4*p2 (-36-p)) (p2 (A-4)) (p2 4) v (sinesV (onesV v) p):=by
  have qA:=p2_pos A
  have r1:(oneD v.lo).rv=v.lo.rv:=rv_one hv.1
  have r2:(oneD v.hi).rv=v.hi.rv:=rv_one hv.2
  obtain ⟨a1,a2⟩:=rv_amt (d:=oneD v.lo) oneD_p
  obtain ⟨b1,b2⟩:=rv_amt (d:=oneD v.hi) oneD_p
  rw [r1] at a1 a2
  rw [r2] at b1 b2
  have w:p2 (-36-p)≤1/8:=by
    have:=p2_le (show -36-p≤-3 by omega)
    have e:p2 (-3)=1/8:=by decide +kernel
    grind
  have w0:=rlL (p2_pos (-36-p))
  have key:∀ {a b l1 h1 l2 h2:Rat},Nar δ a b→b≤1→Enc (sinS a) l1 h1→Enc (sinS b) l2 h2→NM (p2 (-36-p)) (p2 (A-4)) (p2 4) l1 h1→NM (p2 (-36-p)) (p2 (A-4)) (p2 4) l2 h2→NM (2*δ+4*p2 (-36-p)) (p2 (A-4)) (p2 4) l1 h2:=fun n hb e1 e2 n1 n2 =>
    ⟨n1.L0,n1.lo,n2.hi,sin_nar n hb e1 e2 n1.nar n2.nar d0 d1 w0 w⟩
  have lo_ne:v.lo.rv≠0∧v.hi.rv≠0∧p2 A≤((oneD v.lo).m:Rat)*p2 (oneD v.lo).e∧p2 A≤((oneD v.hi).m:Rat)*p2 (oneD v.hi).e:=by
    rcases hn with ⟨n0,n1,n2⟩|⟨n0,n1,n2⟩
    · have h:p2 A≤v.lo.rv:=by rcases hA with h | h<;>grind
      exact ⟨by grind,by grind,by rw [←a1 (by grind)];exact h,by rw [←b1 (by grind)];grind⟩
    · have h:p2 A≤-v.hi.rv:=by rcases hA with h | h<;>grind
      exact ⟨by grind,by grind,by rw [←a2 (by grind)];grind,by rw [←b2 (by grind)];exact h⟩
  obtain ⟨z1,z2,m1,m2⟩:=lo_ne
  have P:=sineV_iv (t:=oneD v.lo) (p:=p) oneD_p (small_one hv.1 f1) (by rw [r1];exact z1) m1 p0 (by omega)
  have Q:=sineV_iv (t:=oneD v.hi) (p:=p) oneD_p (small_one hv.2 f2) (by rw [r2];exact z2) m2 p0 (by omega)
  rw [r1] at P
  rw [r2] at Q
  obtain ⟨P1,P2,P3⟩:=P
  obtain ⟨Q1,Q2,Q3⟩:=Q
  have hl:v.lo.rv≤v.hi.rv:=by
    rcases hn with ⟨_,n1,_⟩|⟨_,n1,_⟩
    · exact n1
    · grind
  refine ⟨⟨P1.1,Q1.2⟩,?_,fun x a b x1 x2 E=>⟨P2.le E fun n=>sinS_mono f1.2 x1 (Rat.le_trans x2 f2.1) n,E.le Q2 fun n=>sinS_mono (Rat.le_trans f1.2 x1) x2 f2.1 n⟩⟩
  show NM _ _ _ (sineV (oneD v.lo) p).lo.rv (sineV (oneD v.hi) p).hi.rv∨NM _ _ _ (-(sineV (oneD v.hi) p).hi.rv) (-(sineV (oneD v.lo) p).lo.rv)
  rcases hn with n | n
  · obtain ⟨n0,n1,n2⟩:=n
    have s1:=sinS_bd0 n0 f1.1 P2
    have s2:=sinS_bd0 (show 0<v.hi.rv by grind) f2.1 Q2
    have g1:NM (p2 (-36-p)) (p2 (A-4)) (p2 4) (sineV (oneD v.lo) p).lo.rv (sineV (oneD v.lo) p).hi.rv:=by
      rcases P3 with h | h
      · exact h
      · exfalso;have:=h.nar.1;grind
    have g2:NM (p2 (-36-p)) (p2 (A-4)) (p2 4) (sineV (oneD v.hi) p).lo.rv (sineV (oneD v.hi) p).hi.rv:=by
      rcases Q3 with h | h
      · exact h
      · exfalso;have:=h.nar.1;grind
    exact .inl (key ⟨n0,n1,n2⟩ f2.1 P2 Q2 g1 g2)
  · obtain ⟨n0,n1,n2⟩:=n
    have s1:=sinS_bd' (show v.lo.rv<0 by grind) f1.2 P2
    have s2:=sinS_bd' (show v.hi.rv<0 by grind) f2.2 Q2
    have g1:NM (p2 (-36-p)) (p2 (A-4)) (p2 4) (-(sineV (oneD v.lo) p).hi.rv) (-(sineV (oneD v.lo) p).lo.rv):=by
      rcases P3 with h | h
      · exfalso;have:=h.nar.1;grind
      · exact h
    have g2:NM (p2 (-36-p)) (p2 (A-4)) (p2 4) (-(sineV (oneD v.hi) p).hi.rv) (-(sineV (oneD v.hi) p).lo.rv):=by
      rcases Q3 with h | h
      · exfalso;have:=h.nar.1;grind
      · exact h
    have P2':=P2.neg
    have Q2':=Q2.neg
    rw [show (fun n=>-sinS v.lo.rv n)=sinS (-v.lo.rv) by funext n;rw [sinS_neg]] at P2'
    rw [show (fun n=>-sinS v.hi.rv n)=sinS (-v.hi.rv) by funext n;rw [sinS_neg]] at Q2'
    exact .inr (key (a:=-v.hi.rv) (b:=-v.lo.rv) ⟨n0,n1,n2⟩ (by have:=f1.2;grind) Q2' P2' g2 g1)
theorem cos_gap{a b δ:Rat}(hn:Nar δ a b)(h1:b≤1)(d0:0≤δ)(n:Nat):cosS a n-cosS b n≤δ:=by
  obtain ⟨a0,ab,bd⟩:=hn
  have b1:b*b≤1:=by have:=rmL h1 (show 0≤b by grind);grind
  have c:=cos_diff (sqr_mono (rlL a0) ab) b1 n
  have m1:=rmR (show b-a≤δ*a by grind) (show 0≤b+a by grind)
  have m2:=rmR (show a≤1 by grind) (show 0≤b+a by grind)
  have m3:=rmL (show a*(b+a)≤2 by grind) d0
  grind
theorem gap_enc{s t:Nat→Rat}{a b c d δ:Rat}(h:Enc s a b)(k:Enc t c d)(g:∀ n,s n-t n≤δ):a-d≤δ:=by
  have e:=h.add k.neg
  have:=e.le (Enc.const δ) (fun n=>by have:=g n;show s n + -t n≤δ;grind)
  grind
theorem cosines_nar{v:Vx}{p:Int}{δ:Rat}(hv:v.P)(f1:small1 v.lo)(f2:small1 v.hi)(hn:VN δ v)(d0:0≤δ)(p0:0≤p)(p1:p≤8000) :
    NM (4*δ+32*p2 (-40-p)) (p2 (-2)) (p2 2) (cosinesV (onesV v) p).lo.rv (cosinesV (onesV v) p).hi.rv:=by
  have hl:v.lo.rv≤v.hi.rv:=by
    rcases hn with ⟨a,b⟩|⟨_,n1,_⟩|⟨_,n1,_⟩
    · rw [a,b];exact Rat.le_refl
    · exact n1
    · grind
  have K:=cosines_ok (p:=p) hv f1 f2 hl p0 p1
  have A:=cosineV_iv (t:=oneD v.lo) (p:=p) oneD_p (small_one hv.1 f1) p0 (by omega)
  have B:=cosineV_iv (t:=oneD v.hi) (p:=p) oneD_p (small_one hv.2 f2) p0 (by omega)
  rw [rv_one hv.1] at A
  rw [rv_one hv.2] at B
  obtain ⟨_,A2,A3⟩:=A
  obtain ⟨_,B2,B3⟩:=B
  have w0:=rlL (p2_pos (-40-p))
  have q2:p2 2=4:=by decide +kernel
  have qm:p2 (-2)=1/4:=by decide +kernel
  have aw:=A3.nar.2.2
  have bw:=B3.nar.2.2
  have al:=A3.nar.2.1
  have bl:=B3.nar.2.1
  have ah:=A3.hi
  have bh:=B3.hi
  have m1:=rmL (show (cosineV (oneD v.lo) p).lo.rv≤4 by grind) w0
  have m2:=rmL (show (cosineV (oneD v.hi) p).lo.rv≤4 by grind) w0
  have g:(cosineV (oneD v.lo) p).lo.rv-(cosineV (oneD v.hi) p).hi.rv≤δ∧(cosineV (oneD v.hi) p).lo.rv-(cosineV (oneD v.lo) p).hi.rv≤δ:=by
    rcases hn with ⟨a,b⟩ | n | n
    · rw [a] at A2
      rw [b] at B2
      have:=A2.meets B2
      have:=B2.meets A2
      constructor<;>grind
    · have x:=gap_enc A2 B2 (cos_gap n f2.1 d0)
      have y:=B2.le A2 fun k=>cosS_anti (sqr_mono (rlL n.1) n.2.1) (sqr_le1 f2.1 f2.2) k
      exact ⟨x,by grind⟩
    · have A2':Enc (cosS (-v.lo.rv)) (cosineV (oneD v.lo) p).lo.rv (cosineV (oneD v.lo) p).hi.rv:=by
        rw [show cosS (-v.lo.rv)=cosS v.lo.rv by funext k;rw [cosS_neg]];exact A2
      have B2':Enc (cosS (-v.hi.rv)) (cosineV (oneD v.hi) p).lo.rv (cosineV (oneD v.hi) p).hi.rv:=by
        rw [show cosS (-v.hi.rv)=cosS v.hi.rv by funext k;rw [cosS_neg]];exact B2
      have x:=gap_enc B2' A2' (cos_gap n (by have:=f1.2;grind) d0)
      have y:=A2'.le B2' fun k=>cosS_anti (sqr_mono (rlL n.1) n.2.1) (sqr_le1 (by have:=f1.2;grind) (by have:=f1.1;grind)) k
      exact ⟨by grind,x⟩
  have sl:=span4_lo (cosineV (oneD v.lo) p).lo (cosineV (oneD v.lo) p).hi (cosineV (oneD v.hi) p).lo (cosineV (oneD v.hi) p).hi
  have sh:=span4_hi (cosineV (oneD v.lo) p).lo (cosineV (oneD v.lo) p).hi (cosineV (oneD v.hi) p).lo (cosineV (oneD v.hi) p).hi
  have lo1:(cosinesV (onesV v) p).lo=(spanL (cosineV (oneD v.lo) p).lo [(cosineV (oneD v.lo) p).hi,(cosineV (oneD v.hi) p).lo,(cosineV (oneD v.hi) p).hi]).lo:=by
    unfold cosinesV;split<;>rfl
  have z:zeroV (onesV v)=zeroV v:=by
    unfold zeroV onesV
    show (decide ((oneD v.lo).sgn≤0) && decide (0≤(oneD v.hi).sgn))=_
    rw [one_sgn _ hv.1,one_sgn _ hv.2]
  have wide:(cosinesV (onesV v) p).hi.rv-(cosinesV (onesV v) p).lo.rv≤δ+8*p2 (-40-p):=by
    rw [lo1]
    have mm:=sl.2.2.2.2
    cases h:zeroV v with
    | true =>
      have e:(cosinesV (onesV v) p).hi=mkS 1 0:=by unfold cosinesV;rw [z,h];rfl
      obtain ⟨zl,zh⟩:=(zeroV_rv hv).1 h
      have zz:v.lo.rv=0∧v.hi.rv=0:=by
        rcases hn with n | ⟨n0,_,_⟩|⟨n0,_,_⟩
        · exact n
        · exfalso;grind
        · exfalso;grind
      rw [e,show (mkS 1 0).rv=1 from rv_int 1]
      rw [zz.1] at A2
      rw [zz.2] at B2
      have ca:=(cosS_bd (t:=0) (by decide) (by decide) A2).2
      have cb:=(cosS_bd (t:=0) (by decide) (by decide) B2).2
      rcases mm with e | e | e | e<;>rw [e]<;>grind
    | false =>
      have e:(cosinesV (onesV v) p).hi=(spanL (cosineV (oneD v.lo) p).lo [(cosineV (oneD v.lo) p).hi,(cosineV (oneD v.hi) p).lo,(cosineV (oneD v.hi) p).hi]).hi:=by
        unfold cosinesV;rw [z,h];rfl
      rw [e]
      have MM:=sh.2.2.2.2
      rcases MM with e | e | e | e<;>rw [e]<;>rcases mm with e' | e' | e' | e'<;>rw [e']<;>grind
  have lo:=K.lo
  have hi:=K.hi
  have le:=K.le
  rw [qm] at lo
  have m3:=rmL lo.1 (show 0≤4*δ+32*p2 (-40-p) by grind)
  exact ⟨p2_pos _,K.lo.1,K.hi.2,by grind,le,by grind⟩
theorem Enc.mid{s t u:Nat→Rat}{a b c d:Rat}(h:Enc s a b)(k:Enc t c d)(h1:∀ n,s n≤u n)(h2:∀ n,u n≤t n):Enc u a d:=fun e he=>by
  obtain ⟨N,x⟩:=h e he
  obtain ⟨M,y⟩:=k e he
  refine ⟨max N M,fun n hn=>?_⟩
  have:=x n (by omega)
  have:=y n (by omega)
  have:=h1 n
  have:=h2 n
  constructor<;>grind
theorem sineH_enc{t:Dx}{p:Int}(ht:0≤t.m)(h1:small1 t)(p0:0≤p)(p1:p≤60000):(sineH t p).P∧Enc (sinS t.rv) (sineH t p).lo.rv (sineH t p).hi.rv:=by
  by_cases h0:t.rv=0
  · have e:sineH t p=zeroIv:=by rw [sineH,if_pos ((sine_zero ht).2 h0)]
    have z:zeroIv.lo.rv=0:=zero_rv
    have z':zeroIv.hi.rv=0:=zero_rv
    rw [e,h0,z,z']
    exact ⟨⟨Int.le_refl _,Int.le_refl _⟩,enc_sin0⟩
  · obtain ⟨a1,a2⟩:=rv_amt ht
    have pos:0<(t.m:Rat)*p2 t.e:=by
      rcases (show 0<t.rv∨t.rv<0 by grind) with s | s
      · rw [←a1 (by grind)];exact s
      · rw [←a2 (by grind)];grind
    obtain ⟨k,k1,_⟩:=log2_ex pos
    have V:=sineH_iv ht h1 h0 k1 p0 p1
    exact ⟨V.1,V.2.1⟩
theorem sinesH_enc{v:Vx}{p:Int}(hv:v.P)(f1:small1 v.lo)(f2:small1 v.hi)(p0:0≤p)(p1:p≤60000):(sinesH v p).P∧∀ x,v.lo.rv≤x→x≤v.hi.rv→Enc (sinS x) (sinesH v p).lo.rv (sinesH v p).hi.rv:=by
  have A:=sineH_enc (p:=p) hv.1 f1 p0 p1
  have B:=sineH_enc (p:=p) hv.2 f2 p0 p1
  exact ⟨⟨A.1.1,B.1.2⟩,fun x x1 x2=>A.2.mid B.2 (fun n=>sinS_mono f1.2 x1 (Rat.le_trans x2 f2.1) n) fun n=>sinS_mono (Rat.le_trans f1.2 x1) x2 f2.1 n⟩
theorem cos_over{v:Vx}(hv:v.P)(f1:small1 v.lo)(f2:small1 v.hi){a b c d lo hi:Rat}(A:Enc (cosS v.lo.rv) a b)(B:Enc (cosS v.hi.rv) c d)(l1:lo≤a)(l2:lo≤c)(h:(zeroV v=true∧hi=1)∨(zeroV v=false∧b≤hi∧d≤hi)){x:Rat}(x1:v.lo.rv≤x)(x2:x≤v.hi.rv):Enc (cosS x) lo hi:=by
  have b1:x*x≤1:=sqr_le1 (by have:=f2.1;grind) (by have:=f1.2;grind)
  have c1:v.lo.rv*v.lo.rv≤1:=sqr_le1 f1.1 f1.2
  have c2:v.hi.rv*v.hi.rv≤1:=sqr_le1 f2.1 f2.2
  have x0:0≤x*x:=by
    rcases (show 0≤x∨x≤0 by grind) with g | g
    · exact rmN g g
    · have:=rmN (show 0≤-x by grind) (show 0≤-x by grind);grind
  have Z:∀ n,cosS x n≤cosS 0 n:=fun n=>cosS_anti (by rw [Rat.zero_mul];exact x0) b1 n
  have low:∃ s e,Enc s lo e∧∀ n,s n≤cosS x n:=by
    rcases (show 0≤x∨x≤0 by grind) with g | g
    · exact ⟨_,d,B.wide l2 Rat.le_refl,fun n=>cosS_anti (sqr_mono g x2) c2 n⟩
    · exact ⟨_,b,A.wide l1 Rat.le_refl,fun n=>cosS_anti (sqr_mono' g x1) c1 n⟩
  obtain ⟨s,e,E,Es⟩:=low
  rcases h with ⟨hz,rfl⟩|⟨hz,h1,h2⟩
  · exact E.mid enc_cos0 Es Z
  · rcases (show 0<v.lo.rv∨v.hi.rv<0 by
      have:=fun k=>(by rw [(zeroV_rv hv).2 k] at hz;exact absurd hz (by simp):False)
      grind) with g | g
    · exact E.mid (A.wide Rat.le_refl h1) Es fun n=>cosS_anti (sqr_mono (rlL g) x1) b1 n
    · exact E.mid (B.wide Rat.le_refl h2) Es fun n=>cosS_anti (sqr_mono' (rlL g) x2) b1 n
theorem cosinesH_enc{v:Vx}{p:Int}(hv:v.P)(f1:small1 v.lo)(f2:small1 v.hi)(p0:0≤p)(p1:p≤60000):(cosinesH v p).P∧∀ x,v.lo.rv≤x→x≤v.hi.rv→Enc (cosS x) (cosinesH v p).lo.rv (cosinesH v p).hi.rv:=by
  have A:=cosineH_iv (p:=p) hv.1 f1 p0 p1
  have B:=cosineH_iv (p:=p) hv.2 f2 p0 p1
  have hL:=hull_lo (cosineH v.lo p) (cosineH v.hi p)
  have hH:=hull_hi (cosineH v.lo p) (cosineH v.hi p)
  have lo2:(cosinesH v p).lo=(hullV (cosineH v.lo p) (cosineH v.hi p)).lo:=by
    unfold cosinesH;split<;>rfl
  have hh:(zeroV v=true∧(cosinesH v p).hi=mkS 1 0)∨(zeroV v=false∧(cosinesH v p).hi=(hullV (cosineH v.lo p) (cosineH v.hi p)).hi):=by
    unfold cosinesH
    cases h:zeroV v
    · exact .inr ⟨rfl,rfl⟩
    · exact .inl ⟨rfl,rfl⟩
  refine ⟨⟨?_,?_⟩,fun x x1 x2=>cos_over hv f1 f2 A.2.1 B.2.1 (by rw [lo2];exact hL.1) (by rw [lo2];exact hL.2.1) ?_ x1 x2⟩
  · rw [lo2]
    rcases hL.2.2 with e | e<;>rw [e]
    · exact A.1.p.1
    · exact B.1.p.1
  · rcases hh with ⟨_,e⟩|⟨_,e⟩<;>rw [e]
    · exact mkS_p
    · rcases hH.2.2 with e | e<;>rw [e]
      · exact A.1.p.2
      · exact B.1.p.2
  · rcases hh with ⟨z,e⟩|⟨z,e⟩
    · exact .inl ⟨z,by rw [e];exact rv_int 1⟩
    · exact .inr ⟨z,by rw [e];exact hH.1,by rw [e];exact hH.2.1⟩
theorem sineV_enc{t:Dx}{p:Int}(ht:0≤t.m)(h1:small1 t)(p0:0≤p)(p1:p≤60000):(sineV t p).P∧Enc (sinS t.rv) (sineV t p).lo.rv (sineV t p).hi.rv:=by
  by_cases h0:t.rv=0
  · have e:sineV t p=zeroIv:=by rw [sineV,if_pos ((sine_zero ht).2 h0)]
    have z:zeroIv.lo.rv=0:=zero_rv
    have z':zeroIv.hi.rv=0:=zero_rv
    rw [e,h0,z,z']
    exact ⟨⟨Int.le_refl _,Int.le_refl _⟩,enc_sin0⟩
  · obtain ⟨a1,a2⟩:=rv_amt ht
    have pos:0<(t.m:Rat)*p2 t.e:=by
      rcases (show 0<t.rv∨t.rv<0 by grind) with s | s
      · rw [←a1 (by grind)];exact s
      · rw [←a2 (by grind)];grind
    obtain ⟨k,k1,_⟩:=log2_ex pos
    have V:=sineV_iv ht h1 h0 k1 p0 p1
    exact ⟨V.1,V.2.1⟩
theorem sinesV_enc{v:Vx}{p:Int}(hv:v.P)(f1:small1 v.lo)(f2:small1 v.hi)(p0:0≤p)(p1:p≤60000):(sinesV (onesV v) p).P∧∀ x,v.lo.rv≤x→x≤v.hi.rv→Enc (sinS x) (sinesV (onesV v) p).lo.rv (sinesV (onesV v) p).hi.rv:=by
  have A:=sineV_enc (t:=oneD v.lo) (p:=p) oneD_p (small_one hv.1 f1) p0 p1
  have B:=sineV_enc (t:=oneD v.hi) (p:=p) oneD_p (small_one hv.2 f2) p0 p1
  rw [rv_one hv.1] at A
  rw [rv_one hv.2] at B
  exact ⟨⟨A.1.1,B.1.2⟩,fun x x1 x2=>A.2.mid B.2 (fun n=>sinS_mono f1.2 x1 (Rat.le_trans x2 f2.1) n) fun n=>sinS_mono (Rat.le_trans f1.2 x1) x2 f2.1 n⟩
theorem cosinesV_enc{v:Vx}{p:Int}(hv:v.P)(f1:small1 v.lo)(f2:small1 v.hi)(hl:v.lo.rv≤v.hi.rv)(p0:0≤p)(p1:p≤8000):(cosinesV (onesV v) p).P∧∀ x,v.lo.rv≤x→x≤v.hi.rv→Enc (cosS x) (cosinesV (onesV v) p).lo.rv (cosinesV (onesV v) p).hi.rv:=by
  have K:=cosines_ok (p:=p) hv f1 f2 hl p0 p1
  have A:=cosineV_iv (t:=oneD v.lo) (p:=p) oneD_p (small_one hv.1 f1) p0 (by omega)
  have B:=cosineV_iv (t:=oneD v.hi) (p:=p) oneD_p (small_one hv.2 f2) p0 (by omega)
  rw [rv_one hv.1] at A
  rw [rv_one hv.2] at B
  have sl:=span4_lo (cosineV (oneD v.lo) p).lo (cosineV (oneD v.lo) p).hi (cosineV (oneD v.hi) p).lo (cosineV (oneD v.hi) p).hi
  have sh:=span4_hi (cosineV (oneD v.lo) p).lo (cosineV (oneD v.lo) p).hi (cosineV (oneD v.hi) p).lo (cosineV (oneD v.hi) p).hi
  have lo1:(cosinesV (onesV v) p).lo=(spanL (cosineV (oneD v.lo) p).lo [(cosineV (oneD v.lo) p).hi,(cosineV (oneD v.hi) p).lo,(cosineV (oneD v.hi) p).hi]).lo:=by
    unfold cosinesV;split<;>rfl
  have z:zeroV (onesV v)=zeroV v:=by
    unfold zeroV onesV
    show (decide ((oneD v.lo).sgn≤0) && decide (0≤(oneD v.hi).sgn))=_
    rw [one_sgn _ hv.1,one_sgn _ hv.2]
  refine ⟨K.xp,fun x x1 x2=>cos_over hv f1 f2 A.2.1 B.2.1 (by rw [lo1];exact sl.1) (by rw [lo1];exact sl.2.2.1) ?_ x1 x2⟩
  cases h:zeroV v with
  | true =>
    have e:(cosinesV (onesV v) p).hi=mkS 1 0:=by unfold cosinesV;rw [z,h];rfl
    exact .inl ⟨rfl,by rw [e];exact rv_int 1⟩
  | false =>
    have e:(cosinesV (onesV v) p).hi=(spanL (cosineV (oneD v.lo) p).lo [(cosineV (oneD v.lo) p).hi,(cosineV (oneD v.hi) p).lo,(cosineV (oneD v.hi) p).hi]).hi:=by
      unfold cosinesV;rw [z,h];rfl
    exact .inr ⟨rfl,by rw [e];exact sh.2.1,by rw [e];exact sh.2.2.2.1⟩
def Thin(δ:Rat)(v:Vx):Prop:=v=zeroIv∨NarV δ v
structure PairOk (v:Vx) (η:Rat) (S C:Vx):Prop where
  sp:S.P
  cp:C.P
  sf:OneV S
  cf:OneV C
  sr:rightV S=true
  cr:rightV C=true
  st:Thin η S
  s32:-32≤S.lo.rv∧S.hi.rv≤32
  cn:Nar η C.lo.rv C.hi.rv
  c0:1/8≤C.lo.rv
  c1:C.hi.rv≤8
  z:v.lo.rv=0→v.hi.rv=0→S=zeroIv
  sin:∀ x,v.lo.rv≤x→x≤v.hi.rv→Enc (sinS x) S.lo.rv S.hi.rv
  cos:∀ x,v.lo.rv≤x→x≤v.hi.rv→Enc (cosS x) C.lo.rv C.hi.rv
theorem trim_enc{s:Nat→Rat}{v:Vx}{p:Int}(hv:v.P)(hp:1≤p)(h:Enc s v.lo.rv v.hi.rv):Enc s (trimV v p).lo.rv (trimV v p).hi.rv:=by
  obtain ⟨b1,b2⟩:=trim_best hv hp
  exact h.wide b1.2.1 b2.2.1
theorem nar_v{δ L H:Rat}{v:Vx}(h:VM δ L H v):NarV δ v:=h.elim (fun h=>.inl h.nar) fun h=>.inr h.nar
theorem pair_ok{v:Vx}{q:Int}{δ:Rat}(hv:v.P)(hr:rightV v=true)(h1:faultD v.lo q=0)(h2:faultD v.hi q=0)(hn:VN δ v)(d0:0≤δ)(hd:δ≤p2 (-q)) :
    (bothR v q=((zeroIv,zeroIv),3)∧rightV (trimV (sinesV (onesV v) q) (q+8))=false)∨bothR v q=((trimV (sinesV (onesV v) q) (q+8),trimV (cosinesV (onesV v) q) (q+8)),0)∧PairOk v (p2 (5-q)) (trimV (sinesV (onesV v) q) (q+8)) (trimV (cosinesV (onesV v) q) (q+8)):=by
  obtain ⟨f1,p0,p1,m1⟩:=fault0 hv.1 h1
  obtain ⟨f2,_,_,m2⟩:=fault0 hv.2 h2
  have hl:=right_le hr
  have eR:bothR v q=both2 (cutR (sinesV (onesV v) q) q) (cutR (cosinesV (onesV v) q) q):=by
    unfold bothR checkR
    rw [if_pos hr,if_pos rfl,if_pos h1,if_pos h2]
  have K:=cosines_ok (p:=q) hv m1 m2 hl (by omega) (by omega)
  have C:=cos_cut K (by omega) (by omega)
  have c2:cutR (cosinesV (onesV v) q) q=(trimV (cosinesV (onesV v) q) (q+8),0):=by rw [cutR,if_pos C.1]
  have e1:eps (q+8)=p2 (-7-q):=by unfold eps;congr 1;omega
  have e4:4*eps (q+8)≤1:=by
    rw [e1]
    have:=p2_le (show -7-q≤-2 by omega)
    have e:p2 (-2)=1/4:=by decide +kernel
    rw [e] at this;grind
  have q0:=p2_pos (-q)
  have k36:p2 (-36-q)≤p2 (-q)/8:=by
    have:=p2_le (show -36-q≤-3 + -q by omega)
    rw [p2_add] at this
    have e:p2 (-3)=1/8:=by decide +kernel
    rw [e] at this;grind
  have k40:p2 (-40-q)≤p2 (-q)/64:=by
    have:=p2_le (show -40-q≤-6 + -q by omega)
    rw [p2_add] at this
    have e:p2 (-6)=1/64:=by decide +kernel
    rw [e] at this;grind
  have k7:p2 (-7-q)≤p2 (-q)/64:=by
    have:=p2_le (show -7-q≤-6 + -q by omega)
    rw [p2_add] at this
    have e:p2 (-6)=1/64:=by decide +kernel
    rw [e] at this;grind
  have k5:p2 (5-q)=32*p2 (-q):=by
    rw [show 5-q=5 + -q by omega,p2_add]
    have e:p2 5=32:=by decide +kernel
    rw [e]
  have q8:p2 (-q)≤1/8:=by
    have:=p2_le (show -q≤-3 by omega)
    have e:p2 (-3)=1/8:=by decide +kernel
    rw [e] at this;exact this
  have w36:=rlL (p2_pos (-36-q))
  have w40:=rlL (p2_pos (-40-q))
  cases hS:rightV (trimV (sinesV (onesV v) q) (q+8)) with
  | false =>
    have c1:cutR (sinesV (onesV v) q) q=(zeroIv,3):=by rw [cutR,if_neg (by rw [hS];simp)]
    exact .inl ⟨by rw [eR,c1,c2];rfl,rfl⟩
  | true =>
    have c1:cutR (sinesV (onesV v) q) q=(trimV (sinesV (onesV v) q) (q+8),0):=by rw [cutR,if_pos hS]
    have SE:=sinesV_enc (p:=q) hv m1 m2 (by omega) (by omega)
    have CE:=cosinesV_enc (p:=q) hv m1 m2 hl (by omega) (by omega)
    have CN:=(cosines_nar (p:=q) hv m1 m2 hn d0 (by omega) (by omega)).trim (p:=q+8) (by grind) (by omega) e4 (trim_best K.xp (by omega)).1 (trim_best K.xp (by omega)).2
    have qm:p2 (-2)=1/4:=by decide +kernel
    have q2:p2 2=4:=by decide +kernel
    have zz:v.lo.rv=0→v.hi.rv=0→trimV (sinesV (onesV v) q) (q+8)=zeroIv:=fun a b=>by
      have A:sineV (oneD v.lo) q=zeroIv:=by rw [sineV,if_pos ((sine_zero oneD_p).2 ((rv_one hv.1).trans a))]
      have B:sineV (oneD v.hi) q=zeroIv:=by rw [sineV,if_pos ((sine_zero oneD_p).2 ((rv_one hv.2).trans b))]
      have:sinesV (onesV v) q=zeroIv:=by
        show (⟨(sineV (oneD v.lo) q).lo,(sineV (oneD v.hi) q).hi⟩:Vx)=_
        rw [A,B]
      rw [this,trim_zero _ (by omega)]
    have big:NarV δ v→VM (2*(2*δ+4*p2 (-36-q))+4*eps (q+8)) (p2 (Classical.epsilon (fun A:Int=>p2 A≤v.lo.rv∨p2 A≤-v.hi.rv)-4)/2) (2*p2 4) (trimV (sinesV (onesV v) q) (q+8)):=fun hn=>by
      have hA:∃ A:Int,p2 A≤v.lo.rv∨p2 A≤-v.hi.rv:=by
        rcases hn with ⟨n0,_,_⟩|⟨n0,_,_⟩
        · obtain ⟨k,k1,_⟩:=log2_ex n0
          exact ⟨k,.inl k1⟩
        · obtain ⟨k,k1,_⟩:=log2_ex n0
          exact ⟨k,.inr k1⟩
      have SB:=sines_nar (p:=q) hv m1 m2 hn (Classical.epsilon_spec hA) d0 (by grind) (by omega) (by omega)
      exact SB.vm.trim SB.p (p:=q+8) (by grind) (by omega) e4
    refine .inr ⟨by rw [eR,c1,c2];rfl,trimV_p _ _,trimV_p _ _,⟨cutD_f SE.1.1,cutD_f SE.1.2⟩,⟨cutD_f K.xp.1,cutD_f K.xp.2⟩,hS,C.1,?_,?_,CN.nar.mono (by rw [e1,k5];grind),by have:=CN.lo;rw [qm] at this;grind,by have:=CN.hi;rw [q2] at this;grind,zz,fun x x1 x2=>trim_enc SE.1 (by omega) (SE.2 x x1 x2),fun x x1 x2=>trim_enc CE.1 (by omega) (CE.2 x x1 x2)⟩
    · rcases hn with ⟨a,b⟩ | hn
      · exact .inl (zz a b)
      · exact .inr (nar_v (big hn)|>.mono (by rw [e1,k5];grind))
    · rcases hn with ⟨a,b⟩ | hn
      · have z:zeroIv.lo.rv=0:=zero_rv
        have z':zeroIv.hi.rv=0:=zero_rv
        rw [zz a b,z,z'];decide
      · have q4:p2 4=16:=by decide +kernel
        rcases big hn with h | h
        · have a:=h.nar.1;have b:=h.nar.2.1;have c:=h.hi;rw [q4] at c;constructor<;>grind
        · have a:=h.nar.1;have b:=h.nar.2.1;have c:=h.hi;rw [q4] at c;constructor<;>grind
theorem fits_small{z:Dx}(h:OneF z)(hb:z.Bd 32768 64):z.fitsB=true:=by
  have m0:=h.p
  have l:=hb.lo
  have u:=hb.hi
  have w:=ws_len_blen m0
  have g:greatB z.m=false:=by unfold greatB;exact decide_eq_false (by omega)
  unfold Dx.fitsB
  rw [g,decide_eq_true (show -32768≤z.e by omega),decide_eq_true (show z.e≤32768 by omega)];rfl
theorem small_bd{d:Dx}(h:OneF d)(hf:d.fitsB=true)(h1:-32≤d.rv)(h2:d.rv≤32):d.Bd 32768 8:=by
  have b:=fits_bd hf
  refine ⟨by omega,by omega,b.lo,?_⟩
  by_cases z:d.m=0
  · rw [h.zero z]
    show (0:Int)+(blen (val []):Int)≤8
    decide
  · have m0:=h.p
    have g:=amt_ge (m:=d.m) (e:=d.e) (by omega)
    obtain ⟨r1,r2⟩:=rv_amt h.p
    have q5:p2 5=32:=by decide +kernel
    have:p2 (d.e+(blen d.m:Int)-1)≤p2 5:=by
      rw [q5]
      rcases (show 0≤d.rv∨d.rv≤0 by grind) with s | s
      · have:=r1 s;grind
      · have:=r2 s;grind
    have:=p2_lt_iff.1 (show p2 (d.e+(blen d.m:Int)-1)<p2 6 by
      have e:p2 6=64:=by decide +kernel
      rw [e];rw [q5] at this;grind)
    omega
structure Half (η:Rat) (X:Vx) (s:Nat→Rat):Prop where
  p:X.P
  f:OneV X
  r:rightV X=true
  t:Thin η X
  b:-32≤X.lo.rv∧X.hi.rv≤32
  e:Enc s X.lo.rv X.hi.rv
theorem turn_rv{v:Vx}(h:v.P):(turnV v).lo.rv = -v.hi.rv∧(turnV v).hi.rv = -v.lo.rv:=⟨rv_neg h.2,rv_neg h.1⟩
theorem turn_zero:turnV zeroIv=zeroIv:=by
  have:negD ⟨false,[],0⟩=⟨false,[],0⟩:=mkD_zero _ _
  show (⟨negD ⟨false,[],0⟩,negD ⟨false,[],0⟩⟩:Vx)=_
  rw [this];rfl
theorem NarV.turn{δ:Rat}{v:Vx}(hv:v.P)(h:NarV δ v):NarV δ (turnV v):=by
  obtain ⟨r1,r2⟩:=turn_rv hv
  unfold NarV
  rw [r1,r2,Rat.neg_neg,Rat.neg_neg]
  exact h.symm
theorem Half.turn{η:Rat}{X:Vx}{s:Nat→Rat}(h:Half η X s):Half η (turnV X) (fun n=>-s n):=by
  obtain ⟨r1,r2⟩:=turn_rv h.p
  have f:=right_fits h.r
  have le:=right_le h.r
  refine ⟨⟨negD_p,negD_p⟩,⟨negD_f h.p.2,negD_f h.p.1⟩,right_of (fits_neg h.f.2 f.2.1) (fits_neg h.f.1 f.1) (by rw [r1,r2];grind),?_,by rw [r1,r2];have:=h.b;constructor<;>grind,by rw [r1,r2];exact h.e.neg⟩
  rcases h.t with e | n
  · exact .inl (by rw [e,turn_zero])
  · exact .inr (n.turn h.p)
theorem PairOk.s{v:Vx}{η:Rat}{S C:Vx}(h:PairOk v η S C){x:Rat}(x1:v.lo.rv≤x)(x2:x≤v.hi.rv):Half η S (sinS x):=⟨h.sp,h.sf,h.sr,h.st,h.s32,h.sin x x1 x2⟩
theorem PairOk.c{v:Vx}{η:Rat}{S C:Vx}(h:PairOk v η S C){x:Rat}(x1:v.lo.rv≤x)(x2:x≤v.hi.rv):Half η C (cosS x):=⟨h.cp,h.cf,h.cr,.inr (.inl h.cn),by have:=h.c0;have:=h.c1;have:=h.cn.2.1;constructor<;>grind,h.cos x x1 x2⟩
structure Fin1 (p:Int) (Y:Vx):Prop where
  q:Y.P
  f:OneV Y
  r:rightV Y=true
  n:narrowB Y p=true
theorem vm_nar{δ:Rat}{v:Vx}(h:NarV δ v):∃ L H,VM δ L H v:=by
  rcases h with h | h
  · exact ⟨_,_,.inl ⟨h.1,Rat.le_refl,Rat.le_refl,h⟩⟩
  · exact ⟨_,_,.inr ⟨h.1,Rat.le_refl,Rat.le_refl,h⟩⟩
theorem narrow_zero{p:Int}(p0:0≤p):narrowB zeroIv p=true:=by
  have n:narrowV zeroIv p=true:=by unfold narrowV;rw [if_neg (by decide),if_pos (by decide)]
  rw [narrowB,zero_right,n,show leI 0 p=true from leI_true.2 p0];rfl
theorem fin_ok{X:Vx}{p:Int}{η:Rat}(hp:X.P)(hf:OneV X)(hr:rightV X=true)(ht:Thin η X)(hb:-32≤X.lo.rv∧X.hi.rv≤32)(h0:0≤η)(p0:8≤p)(hd:2*η+4*p2 (-7-p)≤p2 (-p)):Fin1 p (trimV X (p+8)):=by
  have f:=right_fits hr
  have le:=right_le hr
  have e1:eps (p+8)=p2 (-7-p):=by unfold eps;congr 1;omega
  have e4:4*eps (p+8)≤1:=by
    rw [e1]
    have:=p2_le (show -7-p≤-2 by omega)
    have e:p2 (-2)=1/4:=by decide +kernel
    rw [e] at this;grind
  have F:OneV (trimV X (p+8)):=⟨cutD_f hp.1,cutD_f hp.2⟩
  have B1:=(small_bd hf.1 f.1 hb.1 (by grind)).cut (p:=p+8) (up:=false) hp.1 (by omega)
  have B2:=(small_bd hf.2 f.2.1 (by grind) hb.2).cut (p:=p+8) (up:=true) hp.2 (by omega)
  obtain ⟨b1,b2⟩:=trim_best hp (p:=p+8) (by omega)
  have R:rightV (trimV X (p+8))=true:=right_of (fits_small F.1 (B1.mono (by omega) (by omega))) (fits_small F.2 (B2.mono (by omega) (by omega))) (by
    have:=b1.2.1;have:=b2.2.1;grind)
  refine ⟨trimV_p _ _,F,R,?_⟩
  rcases ht with e | n
  · rw [e,trim_zero _ (by omega)];exact narrow_zero (by omega)
  · obtain ⟨L,H,m⟩:=vm_nar (n.trim hp h0 (p:=p+8) (by omega) e4)
    exact narrow_of (trimV_p _ _) R (by omega) m (by rw [e1];exact hd)
theorem Fin1.encl{p:Int}{Y U:Vx}(h:Fin1 p Y)(h1:Y.lo.rv≤U.hi.rv)(h2:U.lo.rv≤Y.hi.rv):enclB Y U p=true:=by
  have c:canonV Y=Y:=by
    show (⟨oneD _,oneD _⟩:Vx)=_
    rw [oneD_id h.f.1,oneD_id h.f.2]
  rw [enclB,h.r,c,sameV_refl2,h.n,leI_true.2 (cmpD_le.2 h1),leI_true.2 (cmpD_le.2 h2)];rfl
theorem inv_anti{a b:Rat}(a0:0<a)(h:a≤b):b⁻¹≤a⁻¹∧0<b⁻¹:=by
  have b0:0<b:=by grind
  have pa:=Rat.inv_pos.2 a0
  have pb:=Rat.inv_pos.2 b0
  have ea:=Rat.inv_mul_cancel a (by grind)
  have eb:=Rat.inv_mul_cancel b (by grind)
  have m:=rmL h (rlL (Rat.mul_pos pa pb))
  refine ⟨?_,pb⟩
  have e1:a⁻¹*b⁻¹*a=b⁻¹:=by rw [Rat.mul_comm a⁻¹,Rat.mul_assoc,ea,Rat.mul_one]
  have e2:a⁻¹*b⁻¹*b=a⁻¹:=by rw [Rat.mul_assoc,eb,Rat.mul_one]
  grind
theorem quo_nar{δ η a b c d x y x' y':Rat}(h:Nar δ a b)(k:Nar η c d)(d0:0≤δ)(n0:0≤η)(x1:a≤x)(x2:x≤b)(y1:c≤y)(y2:y≤d)(x1':a≤x')(x2':x'≤b)(y1':c≤y')(y2':y'≤d) :
    0<x*y⁻¹∧x' * y'⁻¹≤x*y⁻¹+(δ+η+δ*η)*(x*y⁻¹):=by
  obtain ⟨a0,ab,bd⟩:=h
  obtain ⟨c0,cd,dd⟩:=k
  have yp:0<y:=by grind
  have yp':0<y':=by grind
  have iy:=Rat.inv_pos.2 yp
  have iy':=Rat.inv_pos.2 yp'
  have ey:=Rat.inv_mul_cancel y (by grind)
  have ey':=Rat.inv_mul_cancel y' (by grind)
  refine ⟨Rat.mul_pos (by grind) iy,?_⟩
  have m1:=rmL x1 d0
  have m2:=rmL y1' n0
  have t1:x'≤x+δ*x:=by grind
  have t2:y≤y' + η*y':=by grind
  have t3:=rmR t1 (rlL yp)
  have t4:=rmL t2 (show 0≤x+δ*x by have:=rmN d0 (show 0≤x by grind);grind)
  have t5:=rmR (show x' * y≤(x+δ*x)*(y' + η*y') by grind) (rlL (Rat.mul_pos iy iy'))
  have e1:x' * y*(y⁻¹*y'⁻¹)=x' * y'⁻¹:=by
    rw [show x' * y*(y⁻¹*y'⁻¹)=x' * y'⁻¹*(y⁻¹*y) by grind,ey,Rat.mul_one]
  have e2:(x+δ*x)*(y' + η*y')*(y⁻¹*y'⁻¹)=(x*y⁻¹+(δ+η+δ*η)*(x*y⁻¹))*(y'⁻¹*y'):=by grind
  rw [e1,e2,ey',Rat.mul_one] at t5
  exact t5
theorem quo_up_dn{ζ q1 q2 l h:Rat}{p:Int}(hp:1≤p)(he:4*eps p≤1)(z0:0≤ζ)(q0:0<q1)(hl:Dn p q1 l)(hh:Up p q2 h)(le:l≤h)(hq:q2≤q1+ζ*q1)(q20:0<q2):Nar (2*ζ+4*eps p) l h:=by
  obtain ⟨r1,r2⟩:=hl.rel hp q0
  have r3:=hh.rel hp q20
  have e0:=eps_pos p
  have m1:=rmL hq (rlL e0)
  have z1:=rmN z0 (rlL q0)
  have m2:=rmR he (rlL q0)
  have m3:=rmR he z1
  have m4:=rmL r1 (show 0≤2*ζ+4*eps p by grind)
  have m5:=rmL m2 (rlL e0)
  have m6:=rmN (rlL e0) (rlL q0)
  exact ⟨r2,le,by grind⟩
theorem pair_vm{v:Vx}{q A:Int}{δ:Rat}(hv:v.P)(h1:faultD v.lo q=0)(h2:faultD v.hi q=0)(hn:NarV δ v)(hA:p2 A≤v.lo.rv∨p2 A≤-v.hi.rv)(a0:-20000≤A)(d0:0≤δ)(hd:δ≤p2 (-q)) :
    rightV (trimV (sinesV (onesV v) q) (q+8))=true∧VM (p2 (5-q)) (p2 (A-5)) (p2 5) (trimV (sinesV (onesV v) q) (q+8)):=by
  obtain ⟨f1,p0,p1,m1⟩:=fault0 hv.1 h1
  obtain ⟨f2,_,_,m2⟩:=fault0 hv.2 h2
  have e1:eps (q+8)=p2 (-7-q):=by unfold eps;congr 1;omega
  have e4:4*eps (q+8)≤1:=by
    rw [e1]
    have:=p2_le (show -7-q≤-2 by omega)
    have e:p2 (-2)=1/4:=by decide +kernel
    rw [e] at this;grind
  have k36:p2 (-36-q)≤p2 (-q)/8:=by
    have:=p2_le (show -36-q≤-3 + -q by omega)
    rw [p2_add] at this
    have e:p2 (-3)=1/8:=by decide +kernel
    rw [e] at this;grind
  have k7:p2 (-7-q)≤p2 (-q)/64:=by
    have:=p2_le (show -7-q≤-6 + -q by omega)
    rw [p2_add] at this
    have e:p2 (-6)=1/64:=by decide +kernel
    rw [e] at this;grind
  have k5:p2 (5-q)=32*p2 (-q):=by
    rw [show 5-q=5 + -q by omega,p2_add]
    have e:p2 5=32:=by decide +kernel
    rw [e]
  have q8:p2 (-q)≤1/8:=by
    have:=p2_le (show -q≤-3 by omega)
    have e:p2 (-3)=1/8:=by decide +kernel
    rw [e] at this;exact this
  have w36:=rlL (p2_pos (-36-q))
  have q0:=p2_pos (-q)
  have SB:=sines_nar (p:=q) hv m1 m2 hn hA d0 (by grind) (by omega) (by omega)
  have V:=SB.vm.trim SB.p (p:=q+8) (by grind) (by omega) e4
  have l1:p2 (A-4)/2=p2 (A-5):=by have:=p2_half (A-5);rw [show A-5+1=A-4 by omega] at this;grind
  have l2:2*p2 4=p2 5:=p2_half 4
  rw [l1,l2] at V
  have V':=V.mono (η:=p2 (5-q)) (by rw [e1,k5];grind) (p2_pos _) Rat.le_refl Rat.le_refl
  exact ⟨cut_right SB.p V' (by omega) (by omega) (by omega) (by omega),V'⟩
theorem inv_neg1{b:Rat}(hb:b≠0):(-b)⁻¹ = -b⁻¹:=by
  have e:=Rat.inv_mul_cancel b hb
  have f:=Rat.inv_mul_cancel (-b) (by grind)
  have g:(-b)⁻¹=(-b)⁻¹*(b⁻¹*b):=by rw [e,Rat.mul_one]
  have h:(-b)⁻¹*(b⁻¹*b) = -((-b)⁻¹*(-b)*b⁻¹):=by grind
  rw [g,h,f,Rat.one_mul]
theorem p2_inv(a:Int):(p2 a)⁻¹=p2 (-a):=by
  have e:=Rat.inv_mul_cancel (p2 a) (by have:=p2_pos a;grind)
  have f:=p2_neg a
  have g:(p2 a)⁻¹*(p2 (-a)*p2 a)=(p2 a)⁻¹:=by rw [f,Rat.mul_one]
  have h:(p2 a)⁻¹*(p2 (-a)*p2 a)=p2 (-a)*((p2 a)⁻¹*p2 a):=by grind
  rw [←g,h,e,Rat.mul_one]
theorem quo_size{A B C D:Int}{x y:Rat}(x1:p2 A≤x)(x2:x≤p2 B)(y1:p2 C≤y)(y2:y≤p2 D):p2 (A-D)≤x*y⁻¹∧x*y⁻¹≤p2 (B-C):=by
  have a0:=p2_pos A
  have c0:=p2_pos C
  obtain ⟨i1,i0⟩:=inv_anti (show 0<y by grind) y2
  obtain ⟨j1,j0⟩:=inv_anti c0 y1
  rw [p2_inv] at i1 i0 j1
  have m1:=rmR x1 (rlL i0)
  have m2:=rmL i1 (show 0≤x by grind)
  have m3:=rmL j1 (show 0≤x by grind)
  have m4:=rmR x2 (rlL (p2_pos (-C)))
  rw [←p2_add] at m1 m4
  exact ⟨by rw [show A-D=A + -D by omega];grind,by rw [show B-C=B + -C by omega];grind⟩
theorem quo_nm{ζ l h q1 q2:Rat}{A B p:Int}(hp:1≤p)(he:4*eps p≤1)(z0:0≤ζ)(h1:p2 A≤q1)(h2:q2≤p2 B)(hl:Dn p q1 l)(hh:Up p q2 h)(le:l≤h)(hq:q2≤q1+ζ*q1)(q20:0<q2):NM (2*ζ+4*eps p) (p2 (A-1)) (p2 (B+1)) l h:=by
  have a0:=p2_pos A
  have r1:=(hl.rel hp (show 0<q1 by grind)).1
  have r2:=hh.rel hp q20
  have m1:=rmR he (show 0≤q1 by grind)
  have m2:=rmR he (rlL q20)
  have d1:=p2_half (A-1)
  rw [show A-1+1=A by omega] at d1
  have d2:=p2_half B
  exact ⟨p2_pos _,by grind,by grind,quo_up_dn hp he z0 (by grind) hl hh le hq q20⟩
theorem div_vm{X Z:Vx}{δ η:Rat}{A B C D p:Int}(hX:X.P)(hZ:Z.P)(hx:VM δ (p2 A) (p2 B) X)(hz:VM η (p2 C) (p2 D) Z)(d0:0≤δ)(n0:0≤η)(hp:1≤p)(he:4*eps p≤1) :
    (divV X Z p).lo.rv≤(divV X Z p).hi.rv∧Off0 Z∧VM (2*(δ+η+δ*η)+4*eps p) (p2 (A-D-1)) (p2 (B-C+1)) (divV X Z p):=by
  have zle:=vm_le hz
  have off:Off0 Z:=by
    rcases hz with h | h
    · exact .inl h.nar.1
    · exact .inr (by have:=h.nar.1;grind)
  have ze:0≤δ+η+δ*η:=by have:=rmN d0 n0;grind
  obtain ⟨⟨a,b,k1,e1⟩,a',b',k2,e2⟩:=div_at X Z p
  have b1:=k1.best hX hZ off zle hp
  have b2:=k2.best hX hZ off zle hp
  have le:(divV X Z p).lo.rv≤(divV X Z p).hi.rv:=by
    have:=(div_lo X Z p k1).2
    have x1:=b1.2.1.2.1
    have x2:=b1.2.2.2.1
    rw [e1];grind
  refine ⟨le,off,?_⟩
  obtain ⟨bn,bD,_⟩:=b1
  obtain ⟨bn',_,bU⟩:=b2
  rw [←e1] at bD
  rw [←e2] at bU
  obtain ⟨ca,cb⟩:=k1
  obtain ⟨ca',cb'⟩:=k2
  have sx:(∀ d:Dx,d=X.lo∨d=X.hi→X.lo.rv≤d.rv∧d.rv≤X.hi.rv):=fun d h=>by
    have:=vm_le hx
    rcases h with e | e<;>rw [e]<;>exact ⟨by grind,by grind⟩
  have sz:(∀ d:Dx,d=Z.lo∨d=Z.hi→Z.lo.rv≤d.rv∧d.rv≤Z.hi.rv):=fun d h=>by
    rcases h with e | e<;>rw [e]<;>exact ⟨by grind,by grind⟩
  obtain ⟨a1,a2⟩:=sx a ca
  obtain ⟨a1',a2'⟩:=sx a' ca'
  obtain ⟨c1,c2⟩:=sz b cb
  obtain ⟨c1',c2'⟩:=sz b' cb'
  rcases hx with h | h<;>rcases hz with k | k
  · have q:=quo_nar h.nar k.nar d0 n0 a1 a2 c1 c2 a1' a2' c1' c2'
    have q':=(quo_nar h.nar k.nar d0 n0 a1' a2' c1' c2' a1 a2 c1 c2).1
    have s1:=(quo_size (A:=A) (B:=B) (C:=C) (D:=D) (x:=a.rv) (y:=b.rv) (by have:=h.lo;grind) (by have:=h.hi;grind) (by have:=k.lo;grind) (by have:=k.hi;grind)).1
    have s2:=(quo_size (A:=A) (B:=B) (C:=C) (D:=D) (x:=a'.rv) (y:=b'.rv) (by have:=h.lo;grind) (by have:=h.hi;grind) (by have:=k.lo;grind) (by have:=k.hi;grind)).2
    exact .inl (quo_nm hp he ze s1 s2 bD bU le q.2 q')
  · have q:=quo_nar h.nar k.nar d0 n0 (x:=a'.rv) (y:=-b'.rv) (x':=a.rv) (y':=-b.rv) a1' a2' (by grind) (by grind) a1 a2 (by grind) (by grind)
    have q':=(quo_nar h.nar k.nar d0 n0 (x:=a.rv) (y:=-b.rv) (x':=a'.rv) (y':=-b'.rv) a1 a2 (by grind) (by grind) a1' a2' (by grind) (by grind)).1
    have s1:=(quo_size (A:=A) (B:=B) (C:=C) (D:=D) (x:=a'.rv) (y:=-b'.rv) (by have:=h.lo;grind) (by have:=h.hi;grind) (by have:=k.lo;grind) (by have:=k.hi;grind)).1
    have s2:=(quo_size (A:=A) (B:=B) (C:=C) (D:=D) (x:=a.rv) (y:=-b.rv) (by have:=h.lo;grind) (by have:=h.hi;grind) (by have:=k.lo;grind) (by have:=k.hi;grind)).2
    rw [inv_neg1 bn'] at q s1
    rw [inv_neg1 bn] at q q' s2
    refine .inr (quo_nm hp he ze s1 s2 ?_ ?_ (by grind) q.2 q')
    · have:=bU.neg;rwa [show a'.rv * -b'.rv⁻¹ = -(a'.rv*b'.rv⁻¹) by grind]
    · have:=bD.neg;rwa [show a.rv * -b.rv⁻¹ = -(a.rv*b.rv⁻¹) by grind]
  · have q:=quo_nar h.nar k.nar d0 n0 (x:=-a'.rv) (y:=b'.rv) (x':=-a.rv) (y':=b.rv) (by grind) (by grind) c1' c2' (by grind) (by grind) c1 c2
    have q':=(quo_nar h.nar k.nar d0 n0 (x:=-a.rv) (y:=b.rv) (x':=-a'.rv) (y':=b'.rv) (by grind) (by grind) c1 c2 (by grind) (by grind) c1' c2').1
    have s1:=(quo_size (A:=A) (B:=B) (C:=C) (D:=D) (x:=-a'.rv) (y:=b'.rv) (by have:=h.lo;grind) (by have:=h.hi;grind) (by have:=k.lo;grind) (by have:=k.hi;grind)).1
    have s2:=(quo_size (A:=A) (B:=B) (C:=C) (D:=D) (x:=-a.rv) (y:=b.rv) (by have:=h.lo;grind) (by have:=h.hi;grind) (by have:=k.lo;grind) (by have:=k.hi;grind)).2
    refine .inr (quo_nm hp he ze s1 s2 ?_ ?_ (by grind) q.2 q')
    · have:=bU.neg;rwa [show -a'.rv*b'.rv⁻¹ = -(a'.rv*b'.rv⁻¹) by grind]
    · have:=bD.neg;rwa [show -a.rv*b.rv⁻¹ = -(a.rv*b.rv⁻¹) by grind]
  · have q:=quo_nar h.nar k.nar d0 n0 (x:=-a.rv) (y:=-b.rv) (x':=-a'.rv) (y':=-b'.rv) (by grind) (by grind) (by grind) (by grind) (by grind) (by grind) (by grind) (by grind)
    have q':=(quo_nar h.nar k.nar d0 n0 (x:=-a'.rv) (y:=-b'.rv) (x':=-a.rv) (y':=-b.rv) (by grind) (by grind) (by grind) (by grind) (by grind) (by grind) (by grind) (by grind)).1
    have s1:=(quo_size (A:=A) (B:=B) (C:=C) (D:=D) (x:=-a.rv) (y:=-b.rv) (by have:=h.lo;grind) (by have:=h.hi;grind) (by have:=k.lo;grind) (by have:=k.hi;grind)).1
    have s2:=(quo_size (A:=A) (B:=B) (C:=C) (D:=D) (x:=-a'.rv) (y:=-b'.rv) (by have:=h.lo;grind) (by have:=h.hi;grind) (by have:=k.lo;grind) (by have:=k.hi;grind)).2
    rw [inv_neg1 bn] at q s1
    rw [inv_neg1 bn'] at q q' s2
    have t1:-a.rv * -b.rv⁻¹=a.rv*b.rv⁻¹:=by grind
    have t2:-a'.rv * -b'.rv⁻¹=a'.rv*b'.rv⁻¹:=by grind
    rw [t1] at q s1
    rw [t2] at q q' s2
    exact .inl (quo_nm hp he ze s1 s2 bD bU le q.2 q')
theorem small_times{v u:Vx}{p:Int}(hv:v.P)(hu:u.P)(hp:8≤p)(h:∀ x y:Rat,(x=v.lo.rv∨x=v.hi.rv)→(y=u.lo.rv∨y=u.hi.rv)→-(4/5)≤x*y∧x*y≤4/5):small1 (timesV v u p).lo∧small1 (timesV v u p).hi:=by
  obtain ⟨⟨x0,y0,hx0,hy0,g1⟩,x1,y1,hx1,hy1,g2⟩:=prod_at hv hu
  obtain ⟨t1,t2⟩:=times_best (p:=p) (by omega) hv hu
  have a:=h x0 y0 hx0 hy0
  have b:=h x1 y1 hx1 hy1
  rw [←g1] at a
  rw [←g2] at b
  have c1:=t1.close (by omega) a.1 a.2
  have c2:=t2.close (by omega) b.1 b.2
  have e:eps p≤1/8:=by
    have:=p2_le (show 1-p≤-3 by omega)
    have e:p2 (-3)=1/8:=by decide +kernel
    rw [e] at this;exact this
  have:=eps_pos p
  unfold small1
  constructor<;>constructor<;>grind
theorem times_in{v u:Vx}{p:Int}(hv:v.P)(hu:u.P)(hp:1≤p){x y:Rat}(hx:InV v x)(hy:InV u y):InV (timesV v u p) (x*y):=by
  obtain ⟨a,b⟩:=prod_in hv hu hx hy
  obtain ⟨t1,t2⟩:=times_best hp hv hu
  have:=t1.2.1
  have:=t2.2.1
  exact ⟨by grind,by grind⟩
theorem PiIv.up{d:Rat}{v:Vx}(h:PiIv d v)(d1:d≤1/100):v.hi.rv≤16/5:=by
  have:=h.enc.meets piS_enc
  have:=h.nar
  grind
theorem PiIv.common{d d':Rat}{u v:Vx}(h:PiIv d u)(k:PiIv d' v):∃ c:Rat,InV u c∧InV v c:=by
  have m1:=h.enc.meets k.enc
  have m2:=k.enc.meets h.enc
  have l1:=h.le
  have l2:=k.le
  rcases (show u.lo.rv≤v.lo.rv∨v.lo.rv≤u.lo.rv by grind) with c | c
  · exact ⟨v.lo.rv,⟨c,m2⟩,⟨Rat.le_refl,l2⟩⟩
  · exact ⟨u.lo.rv,⟨Rat.le_refl,l1⟩,⟨c,m1⟩⟩
theorem pi_corner{d:Rat}{P:Vx}(h:PiIv d P)(d1:d≤1/100){r y:Rat}(r1:-(1/4)≤r)(r2:r≤1/4)(hy:y=P.lo.rv∨y=P.hi.rv):-(4/5)≤r*y∧r*y≤4/5:=by
  have u:=h.up d1
  have l:=h.lo
  have le:=h.le
  have yb:0≤y∧y≤16/5:=by rcases hy with e | e<;>rw [e]<;>exact ⟨by grind,by grind⟩
  have m1:=rmR r1 yb.1
  have m2:=rmR r2 yb.1
  constructor<;>grind
def angT(r:Dx)(p:Int):Vx:=timesV (pointV r) (constPi (p+48)) (p+40)
def angH(r:Dx)(p:Int):Vx:=timesV (refPi (p+40)) (pointV r) (p+40)
structure AngOk (r:Dx) (p:Int) (a:Vx):Prop where
  p:a.P
  s1:small1 a.lo
  s2:small1 a.hi
theorem angH_ok{r:Dx}(hr:0≤r.m)(h1:-(1/4)≤r.rv)(h2:r.rv≤1/4){p:Int}(p0:8≤p)(p1:p≤8000):AngOk r p (angH r p)∧∀ c,InV (refPi (p+40)) c→InV (angH r p) (r.rv*c):=by
  have P:=refPi_iv (w:=p+40) (by omega) (by omega)
  have d1:p2 (23-(p+40))≤1/100:=by
    have:=p2_le (show 23-(p+40)≤-7 by omega)
    have e:p2 (-7)=1/128:=by decide +kernel
    rw [e] at this;grind
  obtain ⟨q1,q2⟩:=pointV_rv hr
  have S:=small_times (p:=p+40) P.p (pointV_p r) (by omega) (fun x y hx hy=>by
    have:y=r.rv:=by rcases hy with e | e<;>rw [e];exact q1;exact q2
    rw [this,Rat.mul_comm];exact pi_corner P d1 h1 h2 hx)
  refine ⟨⟨trimV_p _ _,S.1,S.2⟩,fun c hc=>?_⟩
  rw [Rat.mul_comm]
  exact times_in P.p (pointV_p r) (by omega) hc (pointV_in hr)
theorem angT_ok{r:Dx}(hr:0≤r.m)(h0:r.rv≠0)(h1:-(1/4)≤r.rv)(h2:r.rv≤1/4){p:Int}(p0:8≤p)(p1:p≤8000) :
    AngOk r p (angT r p)∧NarV (p2 (-(p+24))) (angT r p)∧(∀ c,InV (constPi (p+48)) c→InV (angT r p) (r.rv*c)) ∧
      ∀ A,p2 A≤(r.m:Rat)*p2 r.e→p2 A≤(angT r p).lo.rv∨p2 A≤-(angT r p).hi.rv:=by
  have P:=constPi_iv (p:=p+48) (by omega) (by omega)
  have d0:=rlL (p2_pos (-3-(p+48)))
  have d1:p2 (-3-(p+48))≤1/100:=by
    have:=p2_le (show -3-(p+48)≤-7 by omega)
    have e:p2 (-7)=1/128:=by decide +kernel
    rw [e] at this;grind
  obtain ⟨q1,q2⟩:=pointV_rv hr
  have S:=small_times (p:=p+40) (pointV_p r) P.p (by omega) (fun x y hx hy=>by
    have:x=r.rv:=by rcases hx with e | e<;>rw [e];exact q1;exact q2
    rw [this];exact pi_corner P d1 h1 h2 hy)
  have e1:eps (p+40)=p2 (-39-p):=by unfold eps;congr 1;omega
  have e4:4*eps (p+40)≤1:=by
    rw [e1]
    have:=p2_le (show -39-p≤-2 by omega)
    have e:p2 (-2)=1/4:=by decide +kernel
    rw [e] at this;grind
  obtain ⟨a1,a2⟩:=rv_amt hr
  have amt:((r.m:Rat)*p2 r.e=r.rv∧0<r.rv)∨((r.m:Rat)*p2 r.e = -r.rv∧r.rv<0):=by
    rcases (show 0<r.rv∨r.rv<0 by grind) with s | s
    · exact .inl ⟨(a1 (rlL s)).symm,s⟩
    · exact .inr ⟨(a2 (rlL s)).symm,s⟩
  have pos:0<(r.m:Rat)*p2 r.e:=by rcases amt with ⟨e,s⟩|⟨e,s⟩<;>grind
  generalize (r.m:Rat)*p2 r.e=R at *
  have V:VM 0 R R (pointV r):=by
    unfold VM
    rw [q1,q2]
    rcases amt with ⟨e,s⟩|⟨e,s⟩
    · exact .inl ⟨pos,by grind,by grind,Nar.self s⟩
    · exact .inr ⟨pos,by grind,by grind,Nar.self (by grind)⟩
  have N:NM (p2 (-3-(p+48))) 3 4 (constPi (p+48)).lo.rv (constPi (p+48)).hi.rv:=by
    have l:=P.lo
    have m:=rmL (show 1≤(constPi (p+48)).lo.rv by grind) d0
    have n:=P.nar
    exact ⟨by decide,l,P.hi,by grind,P.le,by grind⟩
  have W:=(VM.prod (pointV_p r) P.p V N (Rat.le_refl) d0).trim (prodV_p _ _) (p:=p+40) (by grind) (by omega) e4
  have W:VM _ (R*3/2) (2*(R*4)) (angT r p):=W
  refine ⟨⟨trimV_p _ _,S.1,S.2⟩,(nar_v W).mono ?_,fun c hc=>times_in (pointV_p r) P.p (by omega) (pointV_in hr) hc,fun A hA=>?_⟩
  · rw [e1]
    have k1:p2 (-3-(p+48))≤p2 (-(p+24))/8:=by
      have:=p2_le (show -3-(p+48)≤-3 + -(p+24) by omega)
      rw [p2_add] at this
      have e:p2 (-3)=1/8:=by decide +kernel
      rw [e] at this;grind
    have k2:p2 (-39-p)≤p2 (-(p+24))/8:=by
      have:=p2_le (show -39-p≤-3 + -(p+24) by omega)
      rw [p2_add] at this
      have e:p2 (-3)=1/8:=by decide +kernel
      rw [e] at this;grind
    have:=p2_pos (-(p+24))
    grind
  · rcases W with h | h
    · exact .inl (by have:=h.lo;grind)
    · exact .inr (by have:=h.lo;grind)
def unitV:Vx:=pointV (mkS 1 0)
def nearT(r:Dx)(p:Int):(Vx×Vx)×Int :=
  if r.zeroB=true then ((zeroIv,unitV),0) else if rightV (angT r p)=true then bothR (angT r p) (p+24) else ((zeroIv,zeroIv),3)
def nearH(r:Dx)(p:Int):Vx×Vx:=if r.zeroB=true then (zeroIv,unitV) else (sinesH (angH r p) (p+24),cosinesH (angH r p) (p+24))
structure TwoOk (η:Rat) (S C U W:Vx) (t:Rat):Prop where
  s:Half η S (sinS t)
  c:Half η C (cosS t)
  up:U.P
  wp:W.P
  u:Enc (sinS t) U.lo.rv U.hi.rv
  w:Enc (cosS t) W.lo.rv W.hi.rv
  cn:Nar η C.lo.rv C.hi.rv
  c0:1/8≤C.lo.rv
  c1:C.hi.rv≤8
theorem one_half{η:Rat}(h:0≤η):Half η unitV (cosS 0)∧Nar η unitV.lo.rv unitV.hi.rv∧unitV.lo.rv=1∧unitV.hi.rv=1:=by
  have m:0≤(mkS 1 0).m:=mkS_p
  obtain ⟨q1,q2⟩:=pointV_rv m
  have e:(mkS 1 0).rv=1:=rv_int 1
  rw [e] at q1 q2
  have q1:unitV.lo.rv=1:=q1
  have q2:unitV.hi.rv=1:=q2
  have n:Nar η unitV.lo.rv unitV.hi.rv:=by rw [q1,q2];exact (Nar.self (by decide)).mono h
  refine ⟨⟨pointV_p _,⟨oneD_f m,oneD_f m⟩,by rw [right_K];decide +kernel,.inr (.inl n),by rw [q1,q2];decide,by rw [q1,q2];exact enc_cos0⟩,n,q1,q2⟩
theorem zero_half{η:Rat}:Half η zeroIv (sinS 0):=by
  have z:zeroIv.lo.rv=0:=zero_rv
  have z':zeroIv.hi.rv=0:=zero_rv
  exact ⟨⟨Int.le_refl _,Int.le_refl _⟩,zero_f,zero_right,.inl rfl,by rw [z,z'];decide,by rw [z,z'];exact enc_sin0⟩
theorem nearT_ok{r:Dx}(hr:0≤r.m)(h1:-(1/4)≤r.rv)(h2:r.rv≤1/4){p p':Int}(p0:8≤p)(p1:p≤2064)(p0':8≤p')(p1':p'≤2064) :
    (∃ S C t,nearT r p=((S,C),0)∧TwoOk (p2 (-19-p)) S C (nearH r p').1 (nearH r p').2 t ∧
      (r.rv=0→S=zeroIv∧(nearH r p').1=zeroIv)∧(p2 (-16384)≤(r.m:Rat)*p2 r.e→VM (p2 (-19-p)) (p2 (-16389)) (p2 5) S) ∧
      ∀ A,-20000≤A→p2 A≤(r.m:Rat)*p2 r.e→VM (p2 (-19-p)) (p2 (A-5)) (p2 5) S) ∨
    (nearT r p=((zeroIv,zeroIv),3)∧r.rv≠0∧(r.m:Rat)*p2 r.e<p2 (-16384)):=by
  have e0:=rlL (p2_pos (-19-p))
  by_cases z:r.zeroB=true
  · left
    have rz:=(zeroB_rv hr).1 z
    have mz:r.m=0:=zeroB_true.1 z
    obtain ⟨a,b,c,d⟩:=one_half e0
    have no:∀ A,¬ p2 A≤(r.m:Rat)*p2 r.e:=fun A hA=>by
      rw [mz] at hA
      have:=p2_pos A
      have e:((0:Int):Rat)=0:=rfl
      rw [e,Rat.zero_mul] at hA;grind
    have zh:nearH r p'=(zeroIv,unitV):=by rw [nearH,if_pos z]
    refine ⟨zeroIv,unitV,0,by rw [nearT,if_pos z],?_,fun _=>⟨rfl,by rw [zh]⟩,fun h=>absurd h (no _),fun A _ h=>absurd h (no _)⟩
    rw [zh]
    exact ⟨zero_half,a,zero_half (η:=0).p,a.p,zero_half (η:=0).e,a.e,b,by rw [c];decide +kernel,by rw [d];decide +kernel⟩
  · have rz:r.rv≠0:=fun h=>z ((zeroB_rv hr).2 h)
    obtain ⟨X,N,I,M⟩:=angT_ok hr rz h1 h2 p0 (show p≤8000 by omega)
    obtain ⟨B,J⟩:=angH_ok hr h1 h2 p0' (show p'≤8000 by omega)
    obtain ⟨c,hc,hc'⟩:=(constPi_iv (p:=p+48) (by omega) (by omega)).common (refPi_iv (w:=p' + 40) (by omega) (by omega))
    have Ic:=I c hc
    have Jc:=J c hc'
    have US:=sinesH_enc (p:=p' + 24) B.p B.s1 B.s2 (by omega) (by omega)
    have UC:=cosinesH_enc (p:=p' + 24) B.p B.s1 B.s2 (by omega) (by omega)
    have hH:nearH r p'=(sinesH (angH r p') (p' + 24),cosinesH (angH r p') (p' + 24)):=by rw [nearH,if_neg z]
    have e5:p2 (5-(p+24))=p2 (-19-p):=by congr 1;omega
    have d0:=rlL (p2_pos (-(p+24)))
    cases R:rightV (angT r p) with
    | true =>
      have f:=right_fits R
      have F1:=fault_of (p:=p+24) X.p.1 f.1 X.s1 (by omega) (by omega)
      have F2:=fault_of (p:=p+24) X.p.2 f.2.1 X.s2 (by omega) (by omega)
      have eN:nearT r p=bothR (angT r p) (p+24):=by rw [nearT,if_neg z,if_pos R]
      have PV:∀ A,-20000≤A→p2 A≤(r.m:Rat)*p2 r.e→rightV (trimV (sinesV (onesV (angT r p)) (p+24)) (p+24+8))=true∧VM (p2 (-19-p)) (p2 (A-5)) (p2 5) (trimV (sinesV (onesV (angT r p)) (p+24)) (p+24+8)):=fun A a0 hA=>by
        rw [←e5]
        exact pair_vm X.p F1 F2 N (M A hA) a0 d0 Rat.le_refl
      rcases pair_ok X.p R F1 F2 (.inr N) d0 Rat.le_refl with ⟨e,ns⟩|⟨e,K⟩
      · refine .inr ⟨by rw [eN,e],rz,Rat.not_le.1 fun k=>?_⟩
        rw [(PV _ (by omega) k).1] at ns;cases ns
      · rw [e5] at K
        refine .inl ⟨_,_,r.rv*c,by rw [eN,e],?_,fun h=>absurd h rz,fun h=>(PV (-16384) (by omega) h).2,fun A a0 h=>(PV A a0 h).2⟩
        rw [hH]
        exact ⟨K.s Ic.1 Ic.2,K.c Ic.1 Ic.2,US.1,UC.1,US.2 _ Jc.1 Jc.2,UC.2 _ Jc.1 Jc.2,K.cn,K.c0,K.c1⟩
    | false =>
      refine .inr ⟨by rw [nearT,if_neg z,if_neg (by rw [R];simp)],rz,Rat.not_le.1 fun k=>?_⟩
      have V:VM (p2 (-(p+24))) (p2 (-16384)) (p2 0) (angT r p):=by
        rw [p2_zero]
        rcases N with n | n
        · have:p2 (-16384)≤(angT r p).lo.rv:=by
            rcases M _ k with m | m
            · exact m
            · have:=p2_pos (-16384);have:=n.1;have:=n.2.1;exfalso;grind
          exact .inl ⟨p2_pos _,this,X.s2.1,n⟩
        · have:p2 (-16384)≤-(angT r p).hi.rv:=by
            rcases M _ k with m | m
            · have:=p2_pos (-16384);have:=n.1;have:=n.2.1;exfalso;grind
            · exact m
          exact .inr ⟨p2_pos _,this,by have:=X.s1.2;grind,n⟩
      have:=cut_right (w:=prodV (pointV r) (constPi (p+48))) (p:=p+40) (prodV_p _ _) V (by omega) (by omega) (by omega) (by omega)
      have:rightV (angT r p)=true:=this
      rw [R] at this;cases this
def turnP(k:Int)(b:Vx×Vx):Vx×Vx:=if k=1 then (b.2,turnV b.1) else if k=2 then (turnV b.1,turnV b.2) else if k=3 then (turnV b.2,b.1) else b
theorem Enc.turn{s:Nat→Rat}{U:Vx}(hU:U.P)(h:Enc s U.lo.rv U.hi.rv):Enc (fun n=>-s n) (turnV U).lo.rv (turnV U).hi.rv:=by
  obtain ⟨r1,r2⟩:=turn_rv hU
  rw [r1,r2];exact h.neg
theorem turned_ok{η:Rat}{S C U W:Vx}{t:Rat}(h:TwoOk η S C U W t)(k:Int):∃ s c,Half η (turnP k (S,C)).1 s∧Half η (turnP k (S,C)).2 c∧Enc s (turnP k (U,W)).1.lo.rv (turnP k (U,W)).1.hi.rv∧Enc c (turnP k (U,W)).2.lo.rv (turnP k (U,W)).2.hi.rv:=by
  unfold turnP
  by_cases h1:k=1
  · rw [if_pos h1,if_pos h1];exact ⟨_,_,h.c,h.s.turn,h.w,h.u.turn h.up⟩
  · rw [if_neg h1,if_neg h1]
    by_cases h2:k=2
    · rw [if_pos h2,if_pos h2];exact ⟨_,_,h.s.turn,h.c.turn,h.u.turn h.up,h.w.turn h.wp⟩
    · rw [if_neg h2,if_neg h2]
      by_cases h3:k=3
      · rw [if_pos h3,if_pos h3];exact ⟨_,_,h.c.turn,h.s,h.w.turn h.wp,h.u⟩
      · rw [if_neg h3,if_neg h3];exact ⟨_,_,h.s,h.c,h.u,h.w⟩
theorem half_encl{η:Rat}{X U:Vx}{s:Nat→Rat}{p:Int}(h:Half η X s)(k:Enc s U.lo.rv U.hi.rv)(p0:8≤p)(e0:0≤η)(he:η≤p2 (-19-p)):enclB (trimV X (p+8)) U p=true:=by
  have k1:p2 (-7-p)≤p2 (-p)/64:=by
    have:=p2_le (show -7-p≤-6 + -p by omega)
    rw [p2_add] at this
    have e:p2 (-6)=1/64:=by decide +kernel
    rw [e] at this;grind
  have k2:p2 (-19-p)≤p2 (-p)/64:=by
    have:=p2_le (show -19-p≤-6 + -p by omega)
    rw [p2_add] at this
    have e:p2 (-6)=1/64:=by decide +kernel
    rw [e] at this;grind
  have q:=p2_pos (-p)
  have F:=fin_ok h.p h.f h.r h.t h.b e0 p0 (by grind)
  have E:=trim_enc h.p (p:=p+8) (by omega) h.e
  exact F.encl (E.meets k) (k.meets E)
theorem shared{s:Nat→Rat}{X U:Vx}(h:Enc s X.lo.rv X.hi.rv)(k:Enc s U.lo.rv U.hi.rv):∃ x,InV X x∧InV U x:=by
  have m1:=h.meets k
  have m2:=k.meets h
  have l1:=h.self
  have l2:=k.self
  rcases (show X.lo.rv≤U.lo.rv∨U.lo.rv≤X.lo.rv by grind) with c | c
  · exact ⟨U.lo.rv,⟨c,m2⟩,⟨Rat.le_refl,l2⟩⟩
  · exact ⟨X.lo.rv,⟨Rat.le_refl,l1⟩,⟨c,m1⟩⟩
theorem trim_in2{v:Vx}{p:Int}{x:Rat}(hv:v.P)(hp:1≤p)(h:InV v x):InV (trimV v p) x:=by
  obtain ⟨b1,b2⟩:=trim_best hv hp
  have:=b1.2.1
  have:=b2.2.1
  exact ⟨by have:=h.1;grind,by have:=h.2;grind⟩
theorem meet_in{X U:Vx}{x:Rat}(h:InV X x)(k:InV U x):X.lo.rv≤U.hi.rv∧U.lo.rv≤X.hi.rv:=⟨Rat.le_trans h.1 k.2,Rat.le_trans k.1 h.2⟩
theorem quo_fin{X Z:Vx}{η:Rat}{A B C D p q:Int}(hX:X.P)(hZ:Z.P)(hp:(divV X Z q).P)(hx:VM η (p2 A) (p2 B) X)(hz:VM η (p2 C) (p2 D) Z)(e0:0≤η)(he:η≤p2 (-19-p))(p0:8≤p)(p1:p≤2064)(hq:p+16≤q)(a0:-20000≤A-D)(b0:B-C≤20000) :
    Off0 Z∧Fin1 p (trimV (divV X Z q) (p+8)):=by
  have e1:eps q≤p2 (-15-p):=p2_le (by omega)
  have e2:eps (p+8)=p2 (-7-p):=by unfold eps;congr 1;omega
  have k15:p2 (-15-p)≤p2 (-p)/64:=by
    have:=p2_le (show -15-p≤-6 + -p by omega)
    rw [p2_add] at this
    have e:p2 (-6)=1/64:=by decide +kernel
    rw [e] at this;grind
  have k7:p2 (-7-p)≤p2 (-p)/64:=by
    have:=p2_le (show -7-p≤-6 + -p by omega)
    rw [p2_add] at this
    have e:p2 (-6)=1/64:=by decide +kernel
    rw [e] at this;grind
  have k19:p2 (-19-p)≤p2 (-p)/64:=by
    have:=p2_le (show -19-p≤-6 + -p by omega)
    rw [p2_add] at this
    have e:p2 (-6)=1/64:=by decide +kernel
    rw [e] at this;grind
  have k15':p2 (-15-p)≤p2 (-p)/1024:=by
    have:=p2_le (show -15-p≤-10 + -p by omega)
    rw [p2_add] at this
    have e:p2 (-10)=1/1024:=by decide +kernel
    rw [e] at this;grind
  have k19':p2 (-19-p)≤p2 (-p)/1024:=by
    have:=p2_le (show -19-p≤-10 + -p by omega)
    rw [p2_add] at this
    have e:p2 (-10)=1/1024:=by decide +kernel
    rw [e] at this;grind
  have q1:p2 (-p)≤1/8:=by
    have:=p2_le (show -p≤-3 by omega)
    have e:p2 (-3)=1/8:=by decide +kernel
    rw [e] at this;exact this
  have q0:=p2_pos (-p)
  have eq0:=eps_pos q
  obtain ⟨le,off,V⟩:=div_vm hX hZ hx hz e0 e0 (p:=q) (by omega) (by grind)
  have sq:=rmL (show η≤1 by grind) e0
  have T:=V.trim hp (p:=p+8) (by have:=rmN e0 e0;grind) (by omega) (by rw [e2];grind)
  have l1:p2 (A-D-1)/2=p2 (A-D-2):=by have:=p2_half (A-D-2);rw [show A-D-2+1=A-D-1 by omega] at this;grind
  have l2:2*p2 (B-C+1)=p2 (B-C+2):=by rw [p2_half];congr 1;omega
  rw [l1,l2] at T
  have T':=T.mono (η:=p2 (-p)) (by rw [e2];grind) (p2_pos _) Rat.le_refl Rat.le_refl
  have R:=cut_right hp T' (by omega) (by omega) (by omega) (by omega)
  exact ⟨off,trimV_p _ _,⟨cutD_f hp.1,cutD_f hp.2⟩,R,narrow_of (trimV_p _ _) R (by omega) T' Rat.le_refl⟩
theorem tan_encl{X Z U W:Vx}{s c:Nat→Rat}{η:Rat}{A B C D p q q':Int}(hX:Half η X s)(hZ:Half η Z c)(hp:(divV X Z q).P)(hx:VM η (p2 A) (p2 B) X)(hz:VM η (p2 C) (p2 D) Z)(hU:U.P)(hW:W.P)(eU:Enc s U.lo.rv U.hi.rv)(eW:Enc c W.lo.rv W.hi.rv)(oW:Off0 W)
    (e0:0≤η) (he:η≤p2 (-19-p)) (p0:8≤p) (p1:p≤2064) (hq:p+16≤q) (hq':1≤q') (a0:-20000≤A-D) (b0:B-C≤20000):enclB (trimV (divV X Z q) (p+8)) (divV U W q') p=true:=by
  obtain ⟨off,F⟩:=quo_fin hX.p hZ.p hp hx hz e0 he p0 p1 hq a0 b0
  obtain ⟨x,x1,x2⟩:=shared hX.e eU
  obtain ⟨y,y1,y2⟩:=shared hZ.e eW
  have i1:=trim_in2 hp (p:=p+8) (by omega) (div_in hX.p hZ.p off (p:=q) (by omega) x1 y1)
  have i2:=div_in hU hW oW hq' x2 y2
  have m:=meet_in i1 i2
  exact F.encl m.1 m.2
theorem overD_zero(b:Dx)(p:Int)(up:Bool):overD ⟨false,[],0⟩ b p up=⟨false,[],0⟩:=by
  have z:(oneD ⟨false,[],0⟩).m=0:=zeroB_true.1 ((zeroB_rv oneD_p).2 ((rv_one (Int.le_refl _)).trans zero_rv))
  unfold overD overX
  rw [if_pos z]
theorem divV_zero(Z:Vx)(q:Int):divV zeroIv Z q=zeroIv:=by
  have h:∀ up,quoV zeroIv Z q up=zeroIv:=fun up=>by
    show spanL (overD ⟨false,[],0⟩ Z.lo q up) [overD ⟨false,[],0⟩ Z.hi q up,overD ⟨false,[],0⟩ Z.lo q up,overD ⟨false,[],0⟩ Z.hi q up]=zeroIv
    rw [overD_zero,overD_zero]
    have s:spanS zeroIv ⟨false,[],0⟩=zeroIv:=by
      unfold spanS
      show (⟨if _ then _ else _,if _ then _ else _⟩:Vx)=_
      split<;>split<;>rfl
    show spanS (spanS (spanS zeroIv _) _) _=_
    rw [s,s,s]
  show (⟨(quoV zeroIv Z q false).lo,(quoV zeroIv Z q true).hi⟩:Vx)=_
  rw [h,h]
theorem zero_encl{U:Vx}{p:Int}(p0:0≤p)(h:InV U 0):enclB zeroIv U p=true:=by
  have z:zeroIv.lo.rv=0:=zero_rv
  have z':zeroIv.hi.rv=0:=zero_rv
  have F:Fin1 p zeroIv:=⟨⟨Int.le_refl _,Int.le_refl _⟩,zero_f,zero_right,narrow_zero p0⟩
  exact F.encl (by rw [z];exact h.2) (by rw [z'];exact h.1)
theorem tan_zero{Z U W:Vx}{s c:Nat→Rat}{p q q':Int}(hU:U.P)(hW:W.P)(eU:InV U 0)(eW:Enc c W.lo.rv W.hi.rv)(oW:Off0 W)(p0:0≤p)(hq':1≤q'):enclB (trimV (divV zeroIv Z q) (p+8)) (divV U W q') p=true:=by
  rw [divV_zero,trim_zero _ (by omega)]
  have l:=eW.self
  have:=div_in hU hW oW hq' eU (y:=W.lo.rv) ⟨Rat.le_refl,l⟩
  rw [Rat.zero_mul] at this
  exact zero_encl p0 this
theorem Off0.turn{U:Vx}(hU:U.P)(h:Off0 U):Off0 (turnV U):=by
  obtain ⟨r1,r2⟩:=turn_rv hU
  unfold Off0 at h ⊢
  rw [r1,r2]
  rcases h with h | h
  · exact .inr (by grind)
  · exact .inl (by grind)
theorem angH_off{r:Dx}(hr:0≤r.m)(h0:r.rv≠0){p:Int}(p0:8≤p)(p1:p≤8000):Off0 (angH r p):=by
  have P:=refPi_iv (w:=p+40) (by omega) (by omega)
  obtain ⟨q1,q2⟩:=pointV_rv hr
  obtain ⟨⟨x0,y0,hx0,hy0,g1⟩,x1,y1,hx1,hy1,g2⟩:=prod_at P.p (pointV_p r)
  obtain ⟨t1,t2⟩:=times_best (p:=p+40) (by omega) P.p (pointV_p r)
  have l:=P.lo
  have le:=P.le
  have e0:y0=r.rv:=by rcases hy0 with e | e<;>rw [e];exact q1;exact q2
  have e1:y1=r.rv:=by rcases hy1 with e | e<;>rw [e];exact q1;exact q2
  have b0:0<x0:=by rcases hx0 with e | e<;>rw [e]<;>grind
  have b1:0<x1:=by rcases hx1 with e | e<;>rw [e]<;>grind
  rcases (show 0<r.rv∨r.rv<0 by grind) with s | s
  · left
    exact (t1.rel (by omega) (by rw [g1,e0];exact Rat.mul_pos b0 s)).2
  · right
    have h:=(t2.neg.rel (by omega) (by rw [g2,e1];have:=Rat.mul_pos b1 (show 0 < -r.rv by grind);grind)).2
    show (timesV (refPi (p+40)) (pointV r) (p+40)).hi.rv<0
    grind
theorem sinesH_off{v:Vx}{p:Int}(hv:v.P)(f1:small1 v.lo)(f2:small1 v.hi)(p0:0≤p)(p1:p≤60000)(h:Off0 v):Off0 (sinesH v p):=by
  have amt:∀ {t:Dx},0≤t.m→t.rv≠0→∃ k,p2 k≤(t.m:Rat)*p2 t.e:=fun {t} ht h0=>by
    obtain ⟨a1,a2⟩:=rv_amt ht
    have pos:0<(t.m:Rat)*p2 t.e:=by
      rcases (show 0<t.rv∨t.rv<0 by grind) with s | s
      · rw [←a1 (by grind)];exact s
      · rw [←a2 (by grind)];grind
    obtain ⟨k,k1,_⟩:=log2_ex pos
    exact ⟨k,k1⟩
  rcases h with h | h
  · obtain ⟨k,hk⟩:=amt hv.1 (by grind)
    obtain ⟨_,V2,V3⟩:=sineH_iv hv.1 f1 (by grind) hk p0 p1
    have:=sinS_bd0 h f1.1 V2
    left
    show 0<(sineH v.lo p).lo.rv
    rcases V3 with n | n
    · exact n.nar.1
    · exfalso;have:=n.nar.1;grind
  · obtain ⟨k,hk⟩:=amt hv.2 (by grind)
    obtain ⟨_,V2,V3⟩:=sineH_iv hv.2 f2 (by grind) hk p0 p1
    have:=sinS_bd' h f2.2 V2
    right
    show (sineH v.hi p).hi.rv<0
    rcases V3 with n | n
    · exfalso;have:=n.nar.1;grind
    · have:=n.nar.1;grind
theorem cosinesH_off{v:Vx}{p:Int}(hv:v.P)(f1:small1 v.lo)(f2:small1 v.hi)(p0:0≤p)(p1:p≤60000):Off0 (cosinesH v p):=by
  have A:=cosineH_iv (p:=p) hv.1 f1 p0 p1
  have B:=cosineH_iv (p:=p) hv.2 f2 p0 p1
  have q:=p2_pos (-2)
  have lo2:(cosinesH v p).lo=(hullV (cosineH v.lo p) (cosineH v.hi p)).lo:=by
    unfold cosinesH;split<;>rfl
  left
  rw [lo2]
  rcases (hull_lo (cosineH v.lo p) (cosineH v.hi p)).2.2 with e | e<;>rw [e]
  · have:=A.2.2.lo;grind
  · have:=B.2.2.lo;grind
theorem nearH_off{r:Dx}(hr:0≤r.m)(h1:-(1/4)≤r.rv)(h2:r.rv≤1/4){p:Int}(p0:8≤p)(p1:p≤2064):Off0 (nearH r p).2∧(r.rv≠0→Off0 (nearH r p).1)∧(r.rv=0→(nearH r p).1=zeroIv):=by
  by_cases z:r.zeroB=true
  · have zh:nearH r p=(zeroIv,unitV):=by rw [nearH,if_pos z]
    rw [zh]
    obtain ⟨_,_,c,_⟩:=one_half (η:=0) Rat.le_refl
    exact ⟨.inl (by rw [c];decide),fun h=>absurd ((zeroB_rv hr).1 z) h,fun _=>rfl⟩
  · have rz:r.rv≠0:=fun h=>z ((zeroB_rv hr).2 h)
    have hH:nearH r p=(sinesH (angH r p) (p+24),cosinesH (angH r p) (p+24)):=by rw [nearH,if_neg z]
    obtain ⟨B,_⟩:=angH_ok hr h1 h2 p0 (show p≤8000 by omega)
    rw [hH]
    exact ⟨cosinesH_off B.p B.s1 B.s2 (by omega) (by omega),fun h=>sinesH_off B.p B.s1 B.s2 (by omega) (by omega) (angH_off hr h p0 (by omega)),fun h=>absurd h rz⟩
theorem tur_small{x:Dx}(hx:0≤x.m)(h:(turR x).2.2=0):OneF (turR x).2.1∧-(1/4)≤(turR x).2.1.rv∧(turR x).2.1.rv≤1/4∧0≤(turR x).1∧(turR x).1≤3:=by
  have fy:OneF (oneD x):=oneD_f hx
  obtain ⟨_,_,_,e⟩:=tur_ok h
  have k1:(turR x).1=by4I (turN (oneD x)):=by rw [e]
  have k2:(turR x).2.1=turX (oneD x):=by rw [e]
  have n1:=turN_near fy.p
  have r:=turX_rv fy.p
  rw [k1,k2]
  refine ⟨lessD_f oneD_p,by rw [r];have:=n1.1;grind,by rw [r];have:=n1.2.1;grind,?_,?_⟩
  · unfold by4I;omega
  · unfold by4I;omega
theorem far_of{r:Dx}(h:OneF r)(h0:r.rv≠0)(hs:(r.m:Rat)*p2 r.e<p2 (-16384)):farB r=true:=by
  have z:r.zeroB=false:=zeroB_false.2 (rv_ne h0)
  have m0:=h.p
  have g:=amt_ge (m:=r.m) (e:=r.e) (by have:=rv_ne h0;omega)
  have:=p2_lt_iff.1 (show p2 (r.e+(blen r.m:Int)-1)<p2 (-16384) by grind)
  have t:topD (oneD r) < -16384:=by rw [oneD_id h];exact this
  rw [farB,z,show ltI (topD (oneD r)) (-16384)=true from ltI_true.2 t];rfl
def ofTp(x:Dx)(p:Int):(Vx×Vx)×Int :=
  if (turR x).2.2=0 then (if (nearT (turR x).2.1 p).2=0 then (turnP (turR x).1 (nearT (turR x).2.1 p).1,0) else ((zeroIv,zeroIv),(nearT (turR x).2.1 p).2)) else ((zeroIv,zeroIv),(turR x).2.2)
def bothTp(x:Dx)(p:Int):(Vx×Vx)×Int :=
  if 8≤p∧p≤2048 then (if (ofTp x p).2=0 then ((trimV (ofTp x p).1.1 (p+8),trimV (ofTp x p).1.2 (p+8)),0) else ((zeroIv,zeroIv),(ofTp x p).2)) else ((zeroIv,zeroIv),2)
def bothU(x:Dx)(p:Int):(Vx×Vx)×Int :=
  if 8≤p∧p≤2048 then (if (turR x).2.2=0 then (turnP (turR x).1 (nearH (turR x).2.1 p),0) else ((zeroIv,zeroIv),(turR x).2.2)) else ((zeroIv,zeroIv),2)
theorem both18{x:Dx}(hx:0≤x.m)(p:Int):((bothTp x p).2=(bothU x p).2∨(bothU x p).2=0∧(bothTp x p).2=3∧farB (turR x).2.1=true)∧((bothTp x p).2≠0→(bothTp x p).1=(zeroIv,zeroIv)) ∧
    ((bothTp x p).2=0→enclB (bothTp x p).1.1 (bothU x p).1.1 p=true∧enclB (bothTp x p).1.2 (bothU x p).1.2 p=true):=by
  by_cases hp:8≤p∧p≤2048
  · by_cases ht:(turR x).2.2=0
    · obtain ⟨f,r1,r2,_,_⟩:=tur_small hx ht
      have eU:bothU x p=(turnP (turR x).1 (nearH (turR x).2.1 p),0):=by rw [bothU,if_pos hp,if_pos ht]
      rcases nearT_ok (p:=p) (p':=p) f.p r1 r2 hp.1 (by omega) hp.1 (by omega) with ⟨S,C,t,e,K,_⟩|⟨e,n0,s⟩
      · have eO:ofTp x p=(turnP (turR x).1 (S,C),0):=by rw [ofTp,if_pos ht,e,if_pos rfl]
        have eB:bothTp x p=((trimV (turnP (turR x).1 (S,C)).1 (p+8),trimV (turnP (turR x).1 (S,C)).2 (p+8)),0):=by rw [bothTp,if_pos hp,eO,if_pos rfl]
        obtain ⟨s,c,h1,h2,h3,h4⟩:=turned_ok K (turR x).1
        have q:=rlL (p2_pos (-19-p))
        rw [eB,eU]
        exact ⟨.inl rfl,fun h=>absurd rfl h,fun _=>⟨half_encl h1 h3 hp.1 q Rat.le_refl,half_encl h2 h4 hp.1 q Rat.le_refl⟩⟩
      · have eO:ofTp x p=((zeroIv,zeroIv),3):=by rw [ofTp,if_pos ht,e,if_neg (by decide)]
        have eB:bothTp x p=((zeroIv,zeroIv),3):=by rw [bothTp,if_pos hp,eO,if_neg (by decide)]
        rw [eB,eU]
        exact ⟨.inr ⟨rfl,rfl,far_of f n0 s⟩,fun _=>rfl,fun h=>absurd h (by decide)⟩
    · have eU:bothU x p=((zeroIv,zeroIv),(turR x).2.2):=by rw [bothU,if_pos hp,if_neg ht]
      have eO:ofTp x p=((zeroIv,zeroIv),(turR x).2.2):=by rw [ofTp,if_neg ht]
      have eB:bothTp x p=((zeroIv,zeroIv),(turR x).2.2):=by rw [bothTp,if_pos hp,eO,if_neg ht]
      rw [eB,eU]
      exact ⟨.inl rfl,fun _=>rfl,fun h=>absurd h ht⟩
  · have eU:bothU x p=((zeroIv,zeroIv),2):=by rw [bothU,if_neg hp]
    have eB:bothTp x p=((zeroIv,zeroIv),2):=by rw [bothTp,if_neg hp]
    rw [eB,eU]
    exact ⟨.inl rfl,fun _=>rfl,fun h=>absurd h (by decide)⟩
theorem VM.turn{δ L H:Rat}{v:Vx}(hv:v.P)(h:VM δ L H v):VM δ L H (turnV v):=by
  obtain ⟨r1,r2⟩:=turn_rv hv
  unfold VM
  rw [r1,r2,Rat.neg_neg,Rat.neg_neg]
  exact h.symm
theorem TwoOk.cv{η:Rat}{S C U W:Vx}{t:Rat}(h:TwoOk η S C U W t):VM η (p2 (-3)) (p2 3) C:=by
  have a:p2 (-3)=1/8:=by decide +kernel
  have b:p2 3=8:=by decide +kernel
  exact .inl ⟨p2_pos _,by rw [a];exact h.c0,by rw [b];exact h.c1,h.cn⟩
theorem off_zeroV{Z:Vx}(hZ:Z.P)(h:Off0 Z):zeroV Z=false:=by
  cases k:zeroV Z with
  | false=>rfl
  | true =>
    have:=(zeroV_rv hZ).1 k
    rcases h with h | h<;>exfalso<;>grind
theorem off_zeroB{W:Vx}(hW:W.P)(h:Off0 W):(W.lo.zeroB && W.hi.zeroB)=false:=by
  cases a:W.lo.zeroB with
  | false=>rfl
  | true =>
    cases b:W.hi.zeroB with
    | false=>rfl
    | true =>
      have a:=(zeroB_rv hW.1).1 a
      have b:=(zeroB_rv hW.2).1 b
      rcases h with h | h<;>exfalso<;>grind
theorem vm_off{δ L H:Rat}{v:Vx}(h:VM δ L H v):Off0 v:=by
  rcases h with h | h
  · exact .inl h.nar.1
  · exact .inr (by have:=h.nar.1;grind)
def TanOk(X Z U W:Vx)(p:Int):Prop :=
  (zeroV Z=true∧(W.lo.zeroB && W.hi.zeroB)=true)∨(zeroV Z=false∧(W.lo.zeroB && W.hi.zeroB)=false∧enclB (trimV (divV X Z (p+16)) (p+8)) (divV U W (p+32)) p=true)
theorem tan_vm{X Z U W:Vx}{s c:Nat→Rat}{η:Rat}{A B C D p:Int}(hX:Half η X s)(hZ:Half η Z c)(hx:VM η (p2 A) (p2 B) X)(hz:VM η (p2 C) (p2 D) Z)(hU:U.P)(hW:W.P)(eU:Enc s U.lo.rv U.hi.rv)(eW:Enc c W.lo.rv W.hi.rv)(oW:Off0 W)
    (e0:0≤η) (he:η≤p2 (-19-p)) (p0:8≤p) (p1:p≤2064) (a0:-20000≤A-D) (b0:B-C≤20000):TanOk X Z U W p :=
  .inr ⟨off_zeroV hZ.p (vm_off hz),off_zeroB hW oW,tan_encl hX hZ (divV_p _ _ _) hx hz hU hW eU eW oW e0 he p0 p1 (by omega) (by omega) a0 b0⟩
theorem tan_0{Z U W:Vx}{c:Nat→Rat}{η:Rat}{C D p:Int}(hZ:Half η Z c)(hz:VM η (p2 C) (p2 D) Z)(hU:U.P)(hW:W.P)(eU:InV U 0)(eW:Enc c W.lo.rv W.hi.rv)(oW:Off0 W)(p0:8≤p):TanOk zeroIv Z U W p :=
  .inr ⟨off_zeroV hZ.p (vm_off hz),off_zeroB hW oW,tan_zero (s:=c) hU hW eU eW oW (by omega) (by omega)⟩
theorem turned_tan{η:Rat}{S C U W:Vx}{t:Rat}{p:Int}(h:TwoOk η S C U W t)(k:Int)(e0:0≤η)(he:η≤p2 (-19-p))(p0:8≤p)(p1:p≤2064){A:Int}(a0:-10000≤A)
    (hs:(S=zeroIv∧U=zeroIv)∨(VM η (p2 A) (p2 5) S∧Off0 U)) (oW:Off0 W):TanOk (turnP k (S,C)).1 (turnP k (S,C)).2 (turnP k (U,W)).1 (turnP k (U,W)).2 p:=by
  have z:zeroIv.lo.rv=0:=zero_rv
  have z':zeroIv.hi.rv=0:=zero_rv
  have i0:InV zeroIv 0:=⟨by rw [z];exact Rat.le_refl,by rw [z'];exact Rat.le_refl⟩
  have cv:=h.cv
  have zz:zeroV zeroIv=true∧(zeroIv.lo.zeroB && zeroIv.hi.zeroB)=true:=by decide
  unfold turnP
  by_cases h1:k=1
  · rw [if_pos h1,if_pos h1]
    rcases hs with ⟨rfl,rfl⟩|⟨sv,ou⟩
    · exact .inl (by rw [turn_zero];exact zz)
    · exact tan_vm h.c h.s.turn cv (sv.turn h.s.p) h.wp ⟨negD_p,negD_p⟩ h.w (h.u.turn h.up) (ou.turn h.up) e0 he p0 p1 (by omega) (by omega)
  · rw [if_neg h1,if_neg h1]
    by_cases h2:k=2
    · rw [if_pos h2,if_pos h2]
      rcases hs with ⟨rfl,rfl⟩|⟨sv,ou⟩
      · rw [turn_zero]
        exact tan_0 h.c.turn (cv.turn h.c.p) h.up ⟨negD_p,negD_p⟩ i0 (h.w.turn h.wp) (oW.turn h.wp) p0
      · exact tan_vm h.s.turn h.c.turn (sv.turn h.s.p) (cv.turn h.c.p) ⟨negD_p,negD_p⟩ ⟨negD_p,negD_p⟩ (h.u.turn h.up) (h.w.turn h.wp) (oW.turn h.wp) e0 he p0 p1 (by omega) (by omega)
    · rw [if_neg h2,if_neg h2]
      by_cases h3:k=3
      · rw [if_pos h3,if_pos h3]
        rcases hs with ⟨rfl,rfl⟩|⟨sv,ou⟩
        · exact .inl zz
        · exact tan_vm h.c.turn h.s (cv.turn h.c.p) sv ⟨negD_p,negD_p⟩ h.up (h.w.turn h.wp) h.u ou e0 he p0 p1 (by omega) (by omega)
      · rw [if_neg h3,if_neg h3]
        rcases hs with ⟨rfl,rfl⟩|⟨sv,ou⟩
        · exact tan_0 h.c cv h.up h.wp i0 h.w oW p0
        · exact tan_vm h.s h.c sv cv h.up h.wp h.u h.w oW e0 he p0 p1 (by omega) (by omega)
theorem enc18{x:Dx}(hx:0≤x.m)(ht:(turR x).2.2=0)(hg:(turR x).2.1.rv≠0→p2 (-1076)≤((turR x).2.1.m:Rat)*p2 (turR x).2.1.e){p:Int}(p0:8≤p)(p1:p≤2048) :
    (ofTp x (p+8)).2=0∧enclB (trimV (ofTp x (p+8)).1.1 (p+8)) (bothU x p).1.1 p=true∧enclB (trimV (ofTp x (p+8)).1.2 (p+8)) (bothU x p).1.2 p=true∧TanOk (ofTp x (p+8)).1.1 (ofTp x (p+8)).1.2 (bothU x p).1.1 (bothU x p).1.2 p:=by
  obtain ⟨f,r1,r2,_,_⟩:=tur_small hx ht
  have eU:bothU x p=(turnP (turR x).1 (nearH (turR x).2.1 p),0):=by rw [bothU,if_pos ⟨p0,p1⟩,if_pos ht]
  have far:p2 (-16384)≤p2 (-1076):=p2_le (by omega)
  obtain ⟨oW,oU,zU⟩:=nearH_off f.p r1 r2 p0 (show p≤2064 by omega)
  have q:=rlL (p2_pos (-19-(p+8)))
  have he:p2 (-19-(p+8))≤p2 (-19-p):=p2_le (by omega)
  rcases nearT_ok (p:=p+8) (p':=p) f.p r1 r2 (by omega) (by omega) p0 (by omega) with ⟨S,C,t,e,K,Z,_,V⟩|⟨e,n0,s⟩
  · have eO:ofTp x (p+8)=(turnP (turR x).1 (S,C),0):=by rw [ofTp,if_pos ht,e,if_pos rfl]
    obtain ⟨s,c,h1,h2,h3,h4⟩:=turned_ok K (turR x).1
    rw [eO,eU]
    refine ⟨rfl,half_encl h1 h3 p0 q he,half_encl h2 h4 p0 q he,?_⟩
    refine turned_tan K (turR x).1 q he p0 (by omega) (A:=-1081) (by omega) ?_ oW
    by_cases h0:(turR x).2.1.rv=0
    · exact .inl (Z h0)
    · exact .inr ⟨V (-1076) (by omega) (hg h0),oU h0⟩
  · exfalso
    have:=hg n0
    grind
theorem fits_bd2{z:Dx}(h:OneF z)(hb:z.Bd 32768 32000):z.fitsB=true:=by
  have m0:=h.p
  have l:=hb.lo
  have u:=hb.hi
  have w:=ws_len_blen m0
  have g:greatB z.m=false:=by unfold greatB;exact decide_eq_false (by omega)
  unfold Dx.fitsB
  rw [g,decide_eq_true (show -32768≤z.e by omega),decide_eq_true (show z.e≤32768 by omega)];rfl
theorem float_tur{y:Dx}(hy:OneF y)(hb:y.Bd 1074 1024):(turR y).2.2=0∧((turR y).2.1.rv≠0→p2 (-1076)≤((turR y).2.1.m:Rat)*p2 (turR y).2.1.e):=by
  have o:=oneD_id hy
  have fy:=fits_bd2 hy (hb.mono (by omega) (by omega))
  have n1:=turN_near hy.p
  have fn:OneF (turN y):=nearD_f
  have en:(turN y).rv=(wholeS (turN y):Rat):=(wholeS_rv nearD_e).symm
  have sn:(turN y).Sm 1026:=by
    refine whole_sm fn nearD_e ?_
    have q1:p2 ((1026:Nat):Int)=4*p2 1024:=by decide +kernel
    have q0:1≤p2 1024:=by decide +kernel
    have lt:=amt_lt (m:=y.m) (e:=y.e)
    have le:=p2_le (a:=y.e+(blen y.m:Int)) (b:=1024) (by have:=hb.hi;omega)
    obtain ⟨a1,a2⟩:=rv_amt hy.p
    have yb:-(p2 1024)≤y.rv∧y.rv≤p2 1024:=by
      rcases (show 0≤y.rv∨y.rv≤0 by grind) with s | s
      · have:=a1 s;constructor<;>grind
      · have:=a2 s;constructor<;>grind
    have x1:=n1.1
    have x2:=n1.2.1
    obtain ⟨r1,r2⟩:=rv_amt fn.p
    rw [q1]
    rcases (show 0≤(turN y).rv∨(turN y).rv≤0 by grind) with s | s
    · rw [←r1 s,en];grind
    · rw [←r2 s,en];grind
  have bn:(turN y).Bd 0 2052:=⟨by omega,by omega,nearD_e,by have:=sn.1;have:=sn.2.2;omega⟩
  have bs:(shiftD (turN y) (-1)).Bd 1074 2052:=bn.shift fn.p (by omega) (by omega) (by omega) (by omega)
  have bx:(turX y).Bd 1074 2053:=Dx.Bd.mono ((hb.mono (L':=1074) (T':=2052) (by omega) (by omega)).less hy.p shiftD_p bs) (by omega) (by omega)
  have fx:OneF (turX y):=lessD_f hy.p
  have gx:=fits_bd2 fx (bx.mono (by omega) (by omega))
  have e:turR y=(by4I (turN y),turX y,0):=by
    unfold turR
    rw [if_pos fy,o,if_pos ⟨fy,gx⟩]
  rw [e]
  refine ⟨rfl,fun h=>?_⟩
  show p2 (-1076)≤((turX y).m:Rat)*p2 (turX y).e
  have m0:=fx.p
  have mz:(turX y).m≠0:=rv_ne (d:=turX y) h
  have g:=amt_ge (m:=(turX y).m) (e:=(turX y).e) (by omega)
  have b:=blen_pos (show 0<(turX y).m by omega)
  have l:=bx.lo
  have:=p2_le (show -1076≤(turX y).e+(blen (turX y).m:Int)-1 by omega)
  grind
def turS(k:Int)(b:(Nat→Rat)×(Nat→Rat)):(Nat→Rat)×(Nat→Rat) :=
  if k=1 then (b.2,fun n=>-b.1 n) else if k=2 then (fun n=>-b.1 n,fun n=>-b.2 n) else if k=3 then (fun n=>-b.2 n,b.1) else b
theorem turS_circle(t:Rat)(k:Int):Near (fun n=>(turS k (sinS t,cosS t)).1 n*(turS k (sinS t,cosS t)).1 n+(turS k (sinS t,cosS t)).2 n*(turS k (sinS t,cosS t)).2 n) (fun _=>1):=by
  have e:(fun n=>(turS k (sinS t,cosS t)).1 n*(turS k (sinS t,cosS t)).1 n+(turS k (sinS t,cosS t)).2 n*(turS k (sinS t,cosS t)).2 n)=fun n=>cosS t n*cosS t n+sinS t n*sinS t n:=by
    funext n
    unfold turS
    by_cases h1:k=1
    · rw [if_pos h1];show cosS t n*cosS t n + -sinS t n * -sinS t n=_;grind
    · rw [if_neg h1]
      by_cases h2:k=2
      · rw [if_pos h2];show -sinS t n * -sinS t n + -cosS t n * -cosS t n=_;grind
      · rw [if_neg h2]
        by_cases h3:k=3
        · rw [if_pos h3];show -cosS t n * -cosS t n+sinS t n*sinS t n=_;grind
        · rw [if_neg h3];show sinS t n*sinS t n+cosS t n*cosS t n=_;grind
  rw [e];exact circle t
theorem circ_gen{s c:Nat→Rat}{v u:Vx}{w:Int}(hv:v.P)(hu:u.P)(hw:1≤w)(ev:Enc s v.lo.rv v.hi.rv)(eu:Enc c u.lo.rv u.hi.rv)(h:Near (fun n=>s n*s n+c n*c n) (fun _=>1)) :
    (plusV (timesV v v w) (timesV u u w) w).lo.rv≤1∧1≤(plusV (timesV v v w) (timesV u u w) w).hi.rv:=by
  have a:=enc_times (p:=w) hv hv hw ev ev
  have b:=enc_times (p:=w) hu hu hw eu eu
  have c:=(a.add b).near h
  obtain ⟨l,h⟩:=plus_best (p:=w) (trimV_p (prodV v v) w) (trimV_p (prodV u u) w) hw
  have d1:=c.meets (Enc.const 1)
  have d2:=(Enc.const 1).meets c
  have l1:(plusV (timesV v v w) (timesV u u w) w).lo.rv≤(timesV v v w).lo.rv+(timesV u u w).lo.rv:=l.2.1
  have h1:(timesV v v w).hi.rv+(timesV u u w).hi.rv≤(plusV (timesV v v w) (timesV u u w) w).hi.rv:=h.2.1
  exact ⟨by grind,by grind⟩
theorem turS_mirror(t:Rat)(n:Int):(turS ((-n) % 4) (sinS (-t),cosS (-t))).1=(fun i=>-(turS (n % 4) (sinS t,cosS t)).1 i)∧(turS ((-n) % 4) (sinS (-t),cosS (-t))).2=(turS (n % 4) (sinS t,cosS t)).2:=by
  have s:sinS (-t)=fun i=>-sinS t i:=by funext i;rw [sinS_neg]
  have c:cosS (-t)=cosS t:=by funext i;rw [cosS_neg]
  rw [s,c]
  have nn:∀ f:Nat→Rat,(fun i=>- -f i)=f:=fun f=>by funext i;grind
  unfold turS
  rcases (show n % 4=0∨n % 4=1∨n % 4=2∨n % 4=3 by omega) with h | h | h | h
  · rw [h,show (-n) % 4=0 by omega]
    exact ⟨rfl,rfl⟩
  · rw [h,show (-n) % 4=3 by omega]
    exact ⟨rfl,rfl⟩
  · rw [h,show (-n) % 4=2 by omega]
    exact ⟨rfl,rfl⟩
  · rw [h,show (-n) % 4=1 by omega]
    refine ⟨?_,?_⟩
    · show cosS t=fun i=>- -cosS t i
      rw [nn]
    · show (fun i=>- -sinS t i)=sinS t
      rw [nn]
theorem nearT_half{r:Dx}(hr:0≤r.m)(h1:-(1/4)≤r.rv)(h2:r.rv≤1/4){p:Int}(p0:8≤p)(p1:p≤2064){S C:Vx}(e:nearT r p=((S,C),0)){c:Rat}(hc:InV (constPi (p+48)) c) :
    Half (p2 (-19-p)) S (sinS (r.rv*c))∧Half (p2 (-19-p)) C (cosS (r.rv*c)):=by
  have e0:=rlL (p2_pos (-19-p))
  by_cases z:r.zeroB=true
  · have rz:=(zeroB_rv hr).1 z
    rw [nearT,if_pos z] at e
    cases e
    rw [rz,Rat.zero_mul]
    exact ⟨zero_half,(one_half e0).1⟩
  · have rz:r.rv≠0:=fun h=>z ((zeroB_rv hr).2 h)
    obtain ⟨X,N,I,M⟩:=angT_ok hr rz h1 h2 p0 (show p≤8000 by omega)
    have Ic:=I c hc
    cases R:rightV (angT r p) with
    | true =>
      have f:=right_fits R
      have F1:=fault_of (p:=p+24) X.p.1 f.1 X.s1 (by omega) (by omega)
      have F2:=fault_of (p:=p+24) X.p.2 f.2.1 X.s2 (by omega) (by omega)
      rw [nearT,if_neg z,if_pos R] at e
      have e5:p2 (5-(p+24))=p2 (-19-p):=by congr 1;omega
      rcases pair_ok X.p R F1 F2 (.inr N) (rlL (p2_pos _)) Rat.le_refl with ⟨g,_⟩|⟨g,K⟩
      · rw [g] at e;cases e
      · rw [g] at e
        cases e
        rw [e5] at K
        exact ⟨K.s Ic.1 Ic.2,K.c Ic.1 Ic.2⟩
    | false =>
      rw [nearT,if_neg z,if_neg (by rw [R];simp)] at e
      cases e
theorem turn_half{η:Rat}{S C:Vx}{s c:Nat→Rat}(h:Half η S s)(g:Half η C c)(k:Int):Half η (turnP k (S,C)).1 (turS k (s,c)).1∧Half η (turnP k (S,C)).2 (turS k (s,c)).2:=by
  unfold turnP turS
  by_cases h1:k=1
  · rw [if_pos h1,if_pos h1];exact ⟨g,h.turn⟩
  · rw [if_neg h1,if_neg h1]
    by_cases h2:k=2
    · rw [if_pos h2,if_pos h2];exact ⟨h.turn,g.turn⟩
    · rw [if_neg h2,if_neg h2]
      by_cases h3:k=3
      · rw [if_pos h3,if_pos h3];exact ⟨g.turn,h⟩
      · rw [if_neg h3,if_neg h3];exact ⟨h,g⟩
theorem circle18{η:Rat}{S C:Vx}{t:Rat}(h:Half η S (sinS t))(g:Half η C (cosS t))(k:Int){q w:Int}(hq:1≤q)(hw:1≤w) :
    (plusV (timesV (trimV (turnP k (S,C)).1 q) (trimV (turnP k (S,C)).1 q) w) (timesV (trimV (turnP k (S,C)).2 q) (trimV (turnP k (S,C)).2 q) w) w).lo.rv≤1 ∧
    1≤(plusV (timesV (trimV (turnP k (S,C)).1 q) (trimV (turnP k (S,C)).1 q) w) (timesV (trimV (turnP k (S,C)).2 q) (trimV (turnP k (S,C)).2 q) w) w).hi.rv:=by
  obtain ⟨a,b⟩:=turn_half h g k
  exact circ_gen (trimV_p _ _) (trimV_p _ _) hw (trim_enc a.p hq a.e) (trim_enc b.p hq b.e) (turS_circle t k)
theorem tan_meets{X Z:Vx}(hX:X.P)(hZ:Z.P)(lx:X.lo.rv≤X.hi.rv)(lz:Z.lo.rv≤Z.hi.rv)(off:Off0 Z){q1 q2 q3 w:Int}(h1:1≤q1)(h2:1≤q2)(h3:1≤q3)(hw:1≤w) :
    (timesV (trimV (divV X Z q1) q2) (trimV Z q3) w).lo.rv≤(trimV X q3).hi.rv∧(trimV X q3).lo.rv≤(timesV (trimV (divV X Z q1) q2) (trimV Z q3) w).hi.rv:=by
  have iX:InV X X.lo.rv:=⟨Rat.le_refl,lx⟩
  have iZ:InV Z Z.lo.rv:=⟨Rat.le_refl,lz⟩
  have nz:Z.lo.rv≠0:=by rcases off with h | h<;>grind
  have a:=times_in (trimV_p (divV X Z q1) q2) (trimV_p Z q3) hw (trim_in2 (divV_p _ _ _) h2 (div_in hX hZ off h1 iX iZ)) (trim_in2 hZ h3 iZ)
  rw [Rat.mul_assoc,Rat.inv_mul_cancel _ nz,Rat.mul_one] at a
  exact meet_in a (trim_in2 hX h3 iX)
theorem mirror18{r:Dx}(hr:OneF r)(h1:-(1/4)≤r.rv)(h2:r.rv≤1/4){p:Int}(p0:8≤p)(p1:p≤2064){S C S' C':Vx}(e:nearT r p=((S,C),0))(e':nearT (negD r) p=((S',C'),0))(n:Int) :
    ∃ s c,Half (p2 (-19-p)) (turnP (n % 4) (S,C)).1 s∧Half (p2 (-19-p)) (turnP (n % 4) (S,C)).2 c∧Half (p2 (-19-p)) (turnP ((-n) % 4) (S',C')).1 (fun i=>-s i)∧Half (p2 (-19-p)) (turnP ((-n) % 4) (S',C')).2 c:=by
  have cp:=constPi_iv (p:=p+48) (by omega) (by omega)
  have hc:InV (constPi (p+48)) (constPi (p+48)).lo.rv:=⟨Rat.le_refl,cp.le⟩
  have rn:(negD r).rv = -r.rv:=rv_neg hr.p
  obtain ⟨a,b⟩:=nearT_half hr.p h1 h2 p0 p1 e hc
  obtain ⟨a',b'⟩:=nearT_half (r:=negD r) negD_p (by rw [rn];grind) (by rw [rn];grind) p0 p1 e' hc
  have m:(negD r).rv*(constPi (p+48)).lo.rv = -(r.rv*(constPi (p+48)).lo.rv):=by rw [rn];grind
  rw [m] at a' b'
  obtain ⟨x,y⟩:=turn_half a b (n % 4)
  obtain ⟨x',y'⟩:=turn_half a' b' ((-n) % 4)
  obtain ⟨t1,t2⟩:=turS_mirror (r.rv*(constPi (p+48)).lo.rv) n
  rw [t1] at x'
  rw [t2] at y'
  exact ⟨_,_,x,y,x',y'⟩
theorem half_meets{η:Rat}{X Y:Vx}{s:Nat→Rat}{q:Int}(h:Half η X s)(g:Half η Y s)(hq:1≤q):(trimV X q).lo.rv≤(trimV Y q).hi.rv∧(trimV Y q).lo.rv≤(trimV X q).hi.rv:=by
  have a:=trim_enc h.p hq h.e
  have b:=trim_enc g.p hq g.e
  exact ⟨a.meets b,b.meets a⟩
theorem half_meets_neg{η:Rat}{X Y:Vx}{s:Nat→Rat}{q:Int}(h:Half η X s)(g:Half η Y (fun n=>-s n))(hq:1≤q):(trimV X q).lo.rv≤(turnV (trimV Y q)).hi.rv∧(turnV (trimV Y q)).lo.rv≤(trimV X q).hi.rv:=by
  have a:=trim_enc h.p hq h.e
  have b:=(trim_enc g.p hq g.e).turn (trimV_p _ _)
  rw [show (fun n=>- -s n)=s by funext n;grind] at b
  exact ⟨a.meets b,b.meets a⟩
theorem inV_turn{U:Vx}(hU:U.P){x:Rat}(h:InV U x):InV (turnV U) (-x):=by
  obtain ⟨r1,r2⟩:=turn_rv hU
  exact ⟨by rw [r1];have:=h.2;grind,by rw [r2];have:=h.1;grind⟩
theorem tan_mirror{X Z X' Z':Vx}{s c:Nat→Rat}(hX:X.P)(hZ:Z.P)(hX':X'.P)(hZ':Z'.P)(eX:Enc s X.lo.rv X.hi.rv)(eZ:Enc c Z.lo.rv Z.hi.rv)(eX':Enc (fun n=>-s n) X'.lo.rv X'.hi.rv)(eZ':Enc c Z'.lo.rv Z'.hi.rv)(off:Off0 Z)(off':Off0 Z'){q1 q2:Int}(h1:1≤q1)(h2:1≤q2) :
    (trimV (divV X Z q1) q2).lo.rv≤(turnV (trimV (divV X' Z' q1) q2)).hi.rv∧(turnV (trimV (divV X' Z' q1) q2)).lo.rv≤(trimV (divV X Z q1) q2).hi.rv:=by
  obtain ⟨y,y1,y2⟩:=shared eZ eZ'
  have T:=eX'.turn hX'
  rw [show (fun n=>- -s n)=s by funext n;grind] at T
  obtain ⟨x,x1,x2⟩:=shared eX T
  have x3:=inV_turn (U:=turnV X') ⟨negD_p,negD_p⟩ x2
  obtain ⟨r1,r2⟩:=turn_rv hX'
  obtain ⟨t1,t2⟩:=turn_rv (v:=turnV X') ⟨negD_p,negD_p⟩
  have x4:InV X' (-x):=⟨by have:=x3.1;rw [t1,r2] at this;grind,by have:=x3.2;rw [t2,r1] at this;grind⟩
  have a:=trim_in2 (divV_p X Z q1) h2 (div_in hX hZ off h1 x1 y1)
  have b:=inV_turn (trimV_p _ _) (trim_in2 (divV_p X' Z' q1) h2 (div_in hX' hZ' off' h1 x4 y2))
  rw [show -(-x*y⁻¹)=x*y⁻¹ by grind] at b
  exact meet_in a b
def tyBo:TyRow:=⟨63,12,true,zV ++ zV,.struct [(0,6,true),(6,6,true)]⟩
def tyBf:TyRow:=⟨110,1,false,[.lit .nilFunc],.func⟩
def tyBa:TyRow:=⟨112,4,true,[.lit .nilFunc,.lit .nilFunc,.lit .nilFunc,.lit .nilFunc],.array 4 1 false⟩
def tyFu:TyRow:=⟨22,1,false,[.int .u8 0],.int .u8⟩
def tysT:List TyRow:=tyBa :: tyBf :: tyBo :: tyFu :: tys4
theorem tysT_ok:RowsOk Tryz.prog tysT:=⟨by kernel_rfl,by kernel_rfl,by kernel_rfl,by kernel_rfl,tys4_ok⟩
abbrev pF(b:Vx×Vx):Tv:=.sv (.agg (ivL false b.1 ++ ivL false b.2))
def eP(b:Vx×Vx):Prop:=(eB 4611686018427387904 b.1.lo∧eB 4611686018427387904 b.1.hi)∧eB 4611686018427387904 b.2.lo∧eB 4611686018427387904 b.2.hi
def wTn(g:Vx×Vx→Vx×Vx):Spec:=specK [.p] fun (b:Vx×Vx)=>(some (eP b),pF (g b))
theorem tSt_vc(b:Vx×Vx)(Q:Tv→Prop):execF ⟨tysT,sRaw8⟩ (fun _=>none) 0 Tryz.f110 [.agg (ivL false b.1 ++ ivL false b.2)] Q=(Q (Tv.sv (Sv.agg (At.bool b.fst.lo.neg :: At.words false b.fst.lo.xs :: At.int .i64 b.fst.lo.e :: At.bool b.fst.hi.neg :: At.words false b.fst.hi.xs :: At.int .i64 b.fst.hi.e :: ivL false b.snd)))):=by kernel_rfl
theorem tRi_vc(b:Vx×Vx)(Q:Tv→Prop):execF ⟨tysT,sRaw8⟩ (fun _=>none) 0 Tryz.f111 [.agg (ivL false b.1 ++ ivL false b.2)] Q=((eB 4611686018427387904 b.fst.lo∧eB 4611686018427387904 b.fst.hi)∧true=true∧Q (Tv.sv (Sv.agg (At.bool b.snd.lo.neg :: At.words false b.snd.lo.xs :: At.int .i64 b.snd.lo.e :: At.bool b.snd.hi.neg :: At.words false b.snd.hi.xs :: At.int .i64 b.snd.hi.e :: ivL true (turnV b.fst))))):=by kernel_rfl
theorem tRo_vc(b:Vx×Vx)(Q:Tv→Prop):execF ⟨tysT,sRaw8⟩ (fun _=>none) 0 Tryz.f112 [.agg (ivL false b.1 ++ ivL false b.2)] Q=((eB 4611686018427387904 b.fst.lo∧eB 4611686018427387904 b.fst.hi)∧(eB 4611686018427387904 b.snd.lo∧eB 4611686018427387904 b.snd.hi)∧true=true∧Q (Tv.sv (Sv.agg (At.bool (turnV b.fst).lo.neg :: At.words true (turnV b.fst).lo.xs :: At.int .i64 (turnV b.fst).lo.e :: At.bool (turnV b.fst).hi.neg :: At.words true (turnV b.fst).hi.xs :: At.int .i64 (turnV b.fst).hi.e :: ivL true (turnV b.snd))))):=by kernel_rfl
theorem tLe_vc(b:Vx×Vx)(Q:Tv→Prop):execF ⟨tysT,sRaw8⟩ (fun _=>none) 0 Tryz.f113 [.agg (ivL false b.1 ++ ivL false b.2)] Q=((eB 4611686018427387904 b.snd.lo∧eB 4611686018427387904 b.snd.hi)∧true=true∧Q (Tv.sv (Sv.agg (At.bool (turnV b.snd).lo.neg :: At.words true (turnV b.snd).lo.xs :: At.int .i64 (turnV b.snd).lo.e :: At.bool (turnV b.snd).hi.neg :: At.words true (turnV b.snd).hi.xs :: At.int .i64 (turnV b.snd).hi.e :: ivL false b.fst)))):=by kernel_rfl
def sTn(g0 g1 g2 g3:Vx×Vx→Vx×Vx):List (FuncId×Spec):=[(110,wTn g0),(111,wTn g1),(112,wTn g2),(113,wTn g3)]
theorem tTn0_vc(b:Vx×Vx)(g0 g1 g2 g3:Vx×Vx→Vx×Vx)(Q:Tv→Prop):execF ⟨tysT,sTn g0 g1 g2 g3⟩ (fun _=>none) 0 Tryz.f74 [.agg (ivL false b.1 ++ ivL false b.2),.one (.int .i64 0)] Q=(((0:Int)≤bitsI BinOp.and IntKind.i64 0 3∧bitsI BinOp.and IntKind.i64 0 3<(↑(4:Nat):Int))∧eP b∧true=true∧Q (Tv.sv (Sv.agg (At.bool (g0 b).fst.lo.neg :: At.words false (g0 b).fst.lo.xs :: At.int .i64 (g0 b).fst.lo.e :: At.bool (g0 b).fst.hi.neg :: At.words false (g0 b).fst.hi.xs :: At.int .i64 (g0 b).fst.hi.e :: ivL false (g0 b).snd)))):=by kernel_rfl
theorem tTn1_vc(b:Vx×Vx)(g0 g1 g2 g3:Vx×Vx→Vx×Vx)(Q:Tv→Prop):execF ⟨tysT,sTn g0 g1 g2 g3⟩ (fun _=>none) 0 Tryz.f74 [.agg (ivL false b.1 ++ ivL false b.2),.one (.int .i64 1)] Q=(((0:Int)≤bitsI BinOp.and IntKind.i64 1 3∧bitsI BinOp.and IntKind.i64 1 3<(↑(4:Nat):Int))∧eP b∧true=true∧Q (Tv.sv (Sv.agg (At.bool (g1 b).fst.lo.neg :: At.words false (g1 b).fst.lo.xs :: At.int .i64 (g1 b).fst.lo.e :: At.bool (g1 b).fst.hi.neg :: At.words false (g1 b).fst.hi.xs :: At.int .i64 (g1 b).fst.hi.e :: ivL false (g1 b).snd)))):=by kernel_rfl
theorem tTn2_vc(b:Vx×Vx)(g0 g1 g2 g3:Vx×Vx→Vx×Vx)(Q:Tv→Prop):execF ⟨tysT,sTn g0 g1 g2 g3⟩ (fun _=>none) 0 Tryz.f74 [.agg (ivL false b.1 ++ ivL false b.2),.one (.int .i64 2)] Q=(((0:Int)≤bitsI BinOp.and IntKind.i64 2 3∧bitsI BinOp.and IntKind.i64 2 3<(↑(4:Nat):Int))∧eP b∧true=true∧Q (Tv.sv (Sv.agg (At.bool (g2 b).fst.lo.neg :: At.words false (g2 b).fst.lo.xs :: At.int .i64 (g2 b).fst.lo.e :: At.bool (g2 b).fst.hi.neg :: At.words false (g2 b).fst.hi.xs :: At.int .i64 (g2 b).fst.hi.e :: ivL false (g2 b).snd)))):=by kernel_rfl
theorem tTn3_vc(b:Vx×Vx)(g0 g1 g2 g3:Vx×Vx→Vx×Vx)(Q:Tv→Prop):execF ⟨tysT,sTn g0 g1 g2 g3⟩ (fun _=>none) 0 Tryz.f74 [.agg (ivL false b.1 ++ ivL false b.2),.one (.int .i64 3)] Q=(((0:Int)≤bitsI BinOp.and IntKind.i64 3 3∧bitsI BinOp.and IntKind.i64 3 3<(↑(4:Nat):Int))∧eP b∧true=true∧Q (Tv.sv (Sv.agg (At.bool (g3 b).fst.lo.neg :: At.words false (g3 b).fst.lo.xs :: At.int .i64 (g3 b).fst.lo.e :: At.bool (g3 b).fst.hi.neg :: At.words false (g3 b).fst.hi.xs :: At.int .i64 (g3 b).fst.hi.e :: ivL false (g3 b).snd)))):=by kernel_rfl
def sNt(co:Int→Vx×Int)(bo:Vx→Int→(Vx×Vx)×Int):List (FuncId×Spec):=[(103,rZero),(105,rInt),(104,rPoint),(107,rTimes),(108,rRight),(106,specK [.i .u8,.i .i64] fun (k:Int) (p:Int)=>(some (k=1),reT (co p))),(109,specK [.v,.i .i64] fun (v:Vx) (p:Int)=>(none,reT2 (bo v p)))]
theorem tNr_vc(r:Dx)(p:Int)(co:Int→Vx×Int)(bo:Vx→Int→(Vx×Vx)×Int)(Q:Tv→Prop):execF ⟨tysT,sNt co bo⟩ (fun _=>none) 0 Tryz.f73 [.agg (dyL false r),.one (.int .i64 p)] Q=(br (Dx.zeroB r) (inR 1∧eB 4611686018427387904 (mkS 1 0)∧Q (Tv.tup [Sv.agg (At.bool false :: At.words true [] :: At.int .i64 0 :: At.bool false :: At.words true [] :: At.int .i64 0 :: ivL true (pointV (mkS 1 0))),Sv.one (At.int .i64 0)])) (inR (p+48)∧(1:Int)=(1:Int)∧br (neI (co (p+48)).snd 0) (Q (Tv.tup [Sv.agg [At.bool false,At.words true [],At.int .i64 0,At.bool false,At.words true [],At.int .i64 0,At.bool false,At.words true [],At.int .i64 0,At.bool false,At.words true [],At.int .i64 0],Sv.one (At.int .i64 (co (p+48)).snd)])) (eB 4611686018427387904 r∧inR (p+40)∧(Vx.Sm 268435456 (pointV r)∧Vx.Sm 268435456 (co (p+48)).fst∧(0:Int)≤p+40∧p+40≤1099511627776)∧true=true∧br (!rightV (timesV (pointV r) (co (p+48)).fst (p+40))) (Q (Tv.tup [Sv.agg [At.bool false,At.words true [],At.int .i64 0,At.bool false,At.words true [],At.int .i64 0,At.bool false,At.words true [],At.int .i64 0,At.bool false,At.words true [],At.int .i64 0],Sv.one (At.int .i64 3)])) (inR (p+24)∧Q (Tv.tup [Sv.agg (At.bool (bo (timesV (pointV r) (co (p+48)).fst (p+40)) (p+24)).fst.fst.lo.neg :: At.words false (bo (timesV (pointV r) (co (p+48)).fst (p+40)) (p+24)).fst.fst.lo.xs :: At.int .i64 (bo (timesV (pointV r) (co (p+48)).fst (p+40)) (p+24)).fst.fst.lo.e :: At.bool (bo (timesV (pointV r) (co (p+48)).fst (p+40)) (p+24)).fst.fst.hi.neg :: At.words false (bo (timesV (pointV r) (co (p+48)).fst (p+40)) (p+24)).fst.fst.hi.xs :: At.int .i64 (bo (timesV (pointV r) (co (p+48)).fst (p+40)) (p+24)).fst.fst.hi.e :: ivL false (bo (timesV (pointV r) (co (p+48)).fst (p+40)) (p+24)).fst.snd),Sv.one (At.int .i64 (bo (timesV (pointV r) (co (p+48)).fst (p+40)) (p+24)).snd)]))))):=by kernel_rfl
theorem tSt_ok:SpecOk Tryz.prog 110 (wTn id) :=
  specKW_ok (envOk tysT_ok sRaw8_ok) mixed Tryz.func110 rfl (by decide) (by decide) fun (b:Vx×Vx) _ _=>⟨fun _=>none,0,(tSt_vc b _).mpr (.inl rfl)⟩
theorem tRi_ok:SpecOk Tryz.prog 111 (wTn fun b=>(b.2,turnV b.1)) :=
  specKW_ok (envOk tysT_ok sRaw8_ok) mixed Tryz.func111 rfl (by decide) (by decide) fun (b:Vx×Vx) _ hp=>⟨fun _=>none,0,(tRi_vc b _).mpr ⟨hp.1,rfl,.inr rfl⟩⟩
theorem tRo_ok:SpecOk Tryz.prog 112 (wTn fun b=>(turnV b.1,turnV b.2)) :=
  specKW_ok (envOk tysT_ok sRaw8_ok) mixed Tryz.func112 rfl (by decide) (by decide) fun (b:Vx×Vx) _ hp=>⟨fun _=>none,0,(tRo_vc b _).mpr ⟨hp.1,hp.2,rfl,.inr rfl⟩⟩
theorem tLe_ok:SpecOk Tryz.prog 113 (wTn fun b=>(turnV b.2,b.1)) :=
  specKW_ok (envOk tysT_ok sRaw8_ok) mixed Tryz.func113 rfl (by decide) (by decide) fun (b:Vx×Vx) _ hp=>⟨fun _=>none,0,(tLe_vc b _).mpr ⟨hp.2,rfl,.inr rfl⟩⟩
def tTn:Spec:=specK [.p,.i .i64] fun (b:Vx×Vx) (k:Int)=>(some (eP b∧0≤k∧k≤3),pF (turnP k b))
theorem sTn_ok:SpecsOk Tryz.prog (sTn id (fun b=>(b.2,turnV b.1)) (fun b=>(turnV b.1,turnV b.2)) (fun b=>(turnV b.2,b.1))):=⟨tSt_ok,tRi_ok,tRo_ok,tLe_ok,trivial⟩
theorem tTn_ok:SpecOk Tryz.prog 74 tTn :=
  specKW_ok (envOk tysT_ok sTn_ok) mixed Tryz.func74 rfl (by decide) (by decide) fun (b:Vx×Vx) _ (k:Int) _ hp=>⟨fun _=>none,0,by
    obtain ⟨he,k0,k1⟩:eP b∧0≤k∧k≤3:=hp
    show execF _ _ _ _ _ (fun t=>t=pF (turnP k b)∨fgT t=pF (turnP k b))
    rcases (show k=0∨k=1∨k=2∨k=3 by omega) with rfl | rfl | rfl | rfl
    · exact (tTn0_vc b _ _ _ _ _).mpr ⟨by rw [and_mask3];decide,he,rfl,.inl rfl⟩
    · exact (tTn1_vc b _ _ _ _ _).mpr ⟨by rw [and_mask3];decide,he,rfl,.inl rfl⟩
    · exact (tTn2_vc b _ _ _ _ _).mpr ⟨by rw [and_mask3];decide,he,rfl,.inl rfl⟩
    · exact (tTn3_vc b _ _ _ _ _).mpr ⟨by rw [and_mask3];decide,he,rfl,.inl rfl⟩⟩
def pnT(r:(Vx×Vx)×Int):Tv:=.tup [.agg (ivL false r.1.1 ++ ivL false r.1.2),.one (.int .i64 r.2)]
def tNr:Spec:=specK [.d,.i .i64] fun (r:Dx) (p:Int)=>(some (r.Bd 131072 131072∧8≤p∧p≤4096),pnT (nearT r p))
theorem sNt_ok:SpecsOk Tryz.prog (sNt constR bothR):=⟨rZero_ok,rInt_ok,rPoint_ok,rTimes_ok,rRight_ok,cConst_ok,rBoth_ok,trivial⟩
theorem tNr_ok:SpecOk Tryz.prog 73 tNr :=
  specKW_ok (envOk tysT_ok sNt_ok) mixed Tryz.func73 rfl (by decide) (by decide) fun (r:Dx) hw (p:Int) _ hp=>⟨fun _=>none,0,by
    obtain ⟨hb,p0,p1⟩:r.Bd 131072 131072∧8≤p∧p≤4096:=hp
    have hr:=Dx.Wf.m0 hw
    show execF _ _ _ _ _ (fun t=>t=pnT (nearT r p)∨fgT t=pnT (nearT r p))
    have ec:constR (p+48)=(constPi (p+48),0):=by rw [constR,if_pos ⟨by omega,by omega⟩]
    have cb:=constPi_bd (w:=p+48) (by omega) (by omega)
    refine (tNr_vc r p constR bothR _).mpr (br_intro (fun h=>⟨⟨by omega,by omega⟩,?_,.inr ?_⟩) fun h=>⟨⟨by omega,by omega⟩,rfl,?_⟩)
    · exact one_eB
    · rw [nearT,if_pos h];rfl
    · rw [ec]
      refine br_intro (fun k=>by cases k) fun _=>⟨?_,⟨by omega,by omega⟩,⟨(hb.point hr).sm (by omega),cb.sm (by omega),by omega,by omega⟩,rfl,br_intro (fun k=>.inr ?_) fun k=>⟨⟨by omega,by omega⟩,.inl ?_⟩⟩
      · exact (hb.sm (N:=262144) (by omega)).eB (by omega)
      · rw [nearT,if_neg (by rw [h];simp),if_neg (by rw [angT,not_true k];simp)];rfl
      · rw [nearT,if_neg (by rw [h];simp),if_pos (by rw [angT,not_false' k]),angT];rfl⟩
end Go.Proofs.YtcgjbmbdkpapdaaGreatDoor
