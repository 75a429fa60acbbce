/-
Symbolic execution, eighteenth part: words of functions that may write a box of their caller, told by patterns.
Sums of terms that fall by twelfths, in fixed point: inverse tangents, plain and hyperbolic. Plain.
The inverse tangents of 1 / n, plain and hyperbolic, in fixed point. Plain.
Sizes of the inverse tangents' sums; pi by Machin. Plain.
The document's inverse tangents of 1 / n in fixed point; its pi. Plain.
Package consts: the inverse tangents' terms: a closure that writes its maker's box; series.Sum with it.
Package consts: inverse, pi.
Pi: between which numbers it lies; how narrow its enclosures are. Plain.
Package consts: the table, what it encloses: pi.
Right angles taken away: plain.
Dyadic numbers: how low their last bit lies, how high their first. Plain.
Package reduce.
Package reduce: Turns, Scale, Split.
Package ulpref09: pi; ulpref14: pi.
Package ulpref14.
When right angles are told apart: plain.
The reckoning again, so that the kernel can do it: the same functions by recursion on a number of rounds.
Package ulplaw14.
Package ulplaw13: the words.
Answers of sines and cosines against the document's. Plain.
Package ulplaw13: the answers that the document gives; SincoreEncloses.
Sine and cosine: the circle, the mirror, bounds. Plain.
Package ulplaw14: ReduceOdd.
Package ulplaw14: ReduceBack, ReduceNear.
Package ulplaw14: ReduceNear.
Package ulplaw14: ReduceAngles.
Package ulplaw14: ReduceQuarter.
Package ulplaw14: ReduceQuarter's word.
Package ulplaw13: circle, mirror, bounds: the laws' words.
The sine rises, the cosine falls with the amount: partial sum by partial sum. Plain.
Sines and cosines of all numbers of an interval: near the document's, and right. Plain.
Package ulplaw13: near; SincoreBoth.
Sines and cosines over a narrow interval: how narrow. Plain.
Sines and cosines of all numbers of a narrow interval: narrow. Plain.
Sines and cosines of all numbers of an interval, enclosed; the turned pair; what is asked of an answer. Plain.
Of half a turned pair: what becomes of it, cut to the bits that are asked; quotients. Plain.
-/
import Derived.Test.YtenkjloaghmjfaaGreatDoorMg2
import Derived.Test.YtenkjloaghmjfaaGreatDoorMg3
namespace Go.Proofs.YtenkjloaghmjfaaGreatDoor
open Go.RowKit
section
variable {C:Base} {w:World} {A:Nat→Option Nat}
theorem repA_wf1{v:Value}{a:At}(h:Rep C A w v a):wf1 a:=by
  cases h with
  | words h=>obtain ⟨_,_,_,h1,h2,h3,_⟩:=h;exact ⟨h3,h2.2⟩
  | _=>exact trivial
theorem repA_wfL(f:Nat→Value):∀ (l:List At) (k:Nat),(∀ (i:Nat) a,l[i]?=some a→Rep C A w (f (k+i)) a)→wfL l
  | [],_,_=>trivial
  | a :: l,k,h=>⟨repA_wf1 (h 0 a rfl),repA_wfL f l (k+1) fun i x hx=>by have:=h (i+1) x hx;rwa [show k+(i+1)=k+1+i by omega] at this⟩
theorem repA_wfB{v:Value}{a:At}(h:Rep C A w v a):wfB a:=by
  cases h with
  | words h=>exact repA_wf1 (.words h)
  | ref vs _ _ _ h=>exact repA_wfL vs _ 0 fun i a hi=>by rw [Nat.zero_add];exact h i a hi
  | rows vs _ _ _ _ _ _ _ _ h=>exact repA_wfL vs _ 0 fun i a hi=>by rw [Nat.zero_add];exact h i a hi
  | _=>exact trivial
theorem repA_wfBs:∀ {vs:List Value} {l:List At},RepL C A w vs l→wfBs l
  | [],[],_=>trivial
  | _ :: _,_ :: _,⟨h,k⟩=>⟨repA_wfB h,repA_wfBs k⟩
theorem repA_wfBs':∀ {vs:List Value} {l:List At},vs.length=l.length→(∀ (i:Nat) v a,vs[i]?=some v→l[i]?=some a→Rep C A w v a)→wfBs l
  | [],[],_,_=>trivial
  | v :: _,a :: _,hl,h=>⟨repA_wfB (h 0 v a rfl rfl),repA_wfBs' (by simpa using hl) fun i v a hv ha=>h (i+1) v a hv ha⟩
theorem repA_wfS{v:Value}{s:Sv}(h:RepS C A w v s):wfS s:=by
  cases s with
  | agg l=>obtain ⟨vs,e,h⟩:=h;exact repA_wfBs h
  | one a =>
    have q:Rep C A w v a:=h
    clear h
    cases q with
    | fn hl k=>exact repA_wfBs' hl k
    | words k=>exact repA_wfB (.words k)
    | ref vs hg ha hc k=>exact repA_wfB (.ref vs hg ha hc k)
    | rows vs hl hn hm hg ha hX hb hc k=>exact repA_wfB (.rows vs hl hn hm hg ha hX hb hc k)
    | _=>exact trivial
theorem repA_wfSs:∀ {vs:List Value} {l:List Sv},RepSs C A w vs l→wfSs l
  | [],[],_=>trivial
  | _ :: _,_ :: _,⟨h,k⟩=>⟨repA_wfS h,repA_wfSs k⟩
end
theorem fg_toTv:∀ l:List Sv,fgT (toTv l)=toTv (fgSs l)
  | []=>rfl
  | [_]=>rfl
  | _ :: _ :: _=>rfl
theorem flat_fgA(a:At):ZE (fgA a)=ZE a:=by cases a<;>rfl
theorem allFlat_fg:∀ l:List At,Q4 (fgL l)=Q4 l
  | []=>rfl
  | a :: l=>by simp only [fgL,Q4,flat_fgA,allFlat_fg l]
theorem effOk_pat {P : Program} {E : Env} (hE : EnvOk P E) (hm : P.follows .mixedOrders = true) {f : FuncId} {fn : Func} {c : Code} (hf : P.funcs[f]? = some fn) (hb : fn.body = some c) (hname : (fn.name == "runtime.NumGoroutine") = false) {sp : qU} (k : Nat) (hk : k ≤ fn.ntmps)
    (h:∀ l args p t,wfBs l→wfSs args→sp (.agg l :: args)=(p,t)→(match p with | none=>True | some p=>p)→args.length≤k∧∃ inv fuel,execFE E inv fuel fn l args (fun x=>x=t∨fgT x=t)):EffOk P f sp:=by
  refine ⟨⟨fn,c,hf,hname,hb⟩,fun C w us l vs ss new rs hn hX0 hX hT hL hus hcell hvs hp hsp hfn hlen=>?_⟩
  obtain ⟨hl,inv,fuel,h⟩:=h l ss (sp (.agg l :: ss)).1 (sp (.agg l :: ss)).2 (repA_wfBs hus) (repA_wfSs hvs) rfl hp
  refine (execFE_ok hE hm hf h hn hX0 hX hT hL hus hcell hvs (by rw [hvs.length];omega)).mono ?_
  rintro e w' ⟨v,new',rs',rfl,hq,h1,h2⟩
  rw [hsp] at hq
  rcases hq with hq | hq
  · cases hq
    exact ⟨v,rfl,h1,h2 hfn⟩
  · have hq:Tv.tup (Sv.agg (fgL new') :: fgSs rs') = .tup (.agg new :: rs):=hq
    cases hq
    refine ⟨v,rfl,fg_toTv rs' ▸ rep_fgT h1,?_⟩
    obtain ⟨e1,e2,⟨us',e3,e4⟩,e5⟩:=h2 (by rw [←allFlat_fg];exact hfn)
    exact ⟨e1,e2,⟨us',rep_fgL e3,e4⟩,e5⟩
def parG(b:Nat)(r:Nat→Rat)(n:Nat):Rat:=Qg (fun k=>if k % 2=b then r k else 0) n
def sgnS(turned:Bool)(r:Nat→Rat)(n:Nat):Rat:=Qg (fun k=>(if turned=true then alt k else 1)*r k) n
theorem sgnS_par(r:Nat→Rat):∀ n,sgnS true r n=parG 0 r n-parG 1 r n
  | 0=>by show (0:Rat)=0-0;grind
  | n+1=>by
    have h:=sgnS_par r n
    have e1:sgnS true r (n+1)=sgnS true r n+alt n*r n:=rfl
    have e2:∀ b,parG b r (n+1)=parG b r n+(if n % 2=b then r n else 0):=fun _=>rfl
    rw [e1,e2,e2,h]
    unfold alt
    rcases (show n % 2=0∨n % 2=1 by omega) with k | k<;>rw [k]<;>simp<;>grind
theorem sumS_par(r:Nat→Rat):∀ n,sgnS false r n=parG 0 r n+parG 1 r n
  | 0=>by show (0:Rat)=0+0;grind
  | n+1=>by
    have h:=sumS_par r n
    have e1:sgnS false r (n+1)=sgnS false r n+1*r n:=rfl
    have e2:∀ b,parG b r (n+1)=parG b r n+(if n % 2=b then r n else 0):=fun _=>rfl
    rw [e1,e2,e2,h]
    rcases (show n % 2=0∨n % 2=1 by omega) with k | k<;>rw [k]<;>simp<;>grind
theorem parG_tail{r:Nat→Rat}(h0:∀ k,0≤r k)(h:∀ k,12*r (k+1)≤r k)(b K:Nat):∀ d,parG b r K≤parG b r (K+d)∧11*(parG b r (K+d)-parG b r K)≤12*(r K-r (K+d))
  | 0=>by constructor<;>grind
  | d+1=>by
    have ih:=parG_tail h0 h b K d
    have t0:=h0 (K+d)
    have t1:=h (K+d)
    have e:parG b r (K+(d+1))=parG b r (K+d)+(if (K+d) % 2=b then r (K+d) else 0):=rfl
    rw [e,←Nat.add_assoc]
    split<;>constructor<;>grind
theorem altG_enc{r:Nat→Rat}(h0:∀ k,0≤r k)(h:∀ k,12*r (k+1)≤r k){K:Nat}{a b c d q:Rat}(h1:a≤parG 0 r K)(h2:parG 0 r K≤b)(h3:c≤parG 1 r K)(h4:parG 1 r K≤d)(h5:12*r K≤11*q):Enc (sgnS true r) (a-(d+q)) (b+q-c):=fun e he=>⟨K,fun n hn=>by
  obtain ⟨m,rfl⟩:∃ m,n=K+m:=⟨n-K,by omega⟩
  have p:=parG_tail h0 h 0 K m
  have q:=parG_tail h0 h 1 K m
  have t:=h0 (K+m)
  rw [sgnS_par]
  constructor<;>grind⟩
theorem sumG_enc{r:Nat→Rat}(h0:∀ k,0≤r k)(h:∀ k,12*r (k+1)≤r k){K:Nat}{a b c d q:Rat}(h1:a≤parG 0 r K)(h2:parG 0 r K≤b)(h3:c≤parG 1 r K)(h4:parG 1 r K≤d)(h5:12*r K≤11*q):Enc (sgnS false r) (a+c) (b+q+(d+q)):=fun e he=>⟨K,fun n hn=>by
  obtain ⟨m,rfl⟩:∃ m,n=K+m:=⟨n-K,by omega⟩
  have p:=parG_tail h0 h 0 K m
  have q:=parG_tail h0 h 1 K m
  have t:=h0 (K+m)
  rw [sumS_par]
  constructor<;>grind⟩
def SmT(T:Nat→Fx)(b:Nat):Nat→Fx
  | 0=>⟨0,0⟩
  | k+1=>if k % 2=b then YY (SmT T b k) (T k) else SmT T b k
theorem smT_in{w:Int}{T:Nat→Fx}{r:Nat→Rat}(h:∀ k,InF w (T k) (r k))(b:Nat):∀ k,InF w (SmT T b k) (parG b r k)
  | 0=>InF.zero w
  | k+1=>by
    have e:parG b r (k+1)=parG b r k+(if k % 2=b then r k else 0):=rfl
    rw [e];unfold SmT
    split
    · exact (smT_in h b k).add (h k)
    · rw [Rat.add_zero];exact smT_in h b k
def EncF(w:Int)(z:Fx)(s:Nat→Rat):Prop:=Enc s ((z.a:Rat)*p2 (-w)) (((z.a+z.e:Int):Rat)*p2 (-w))
theorem scale_le{w:Int}{a:Int}{x:Rat}(h:(a:Rat)≤x*p2 w):(a:Rat)*p2 (-w)≤x:=le_div_p2 h
theorem altT_encF{w:Int}{T:Nat→Fx}{r:Nat→Rat}(hT:∀ k,InF w (T k) (r k))(h0:∀ k,0≤r k)(h:∀ k,12*r (k+1)≤r k){K:Nat}{c:Int}(hK:12*(r K*p2 w)≤11*(c:Rat)) :
    EncF w (subF (zN (SmT T 0 K) c) (zN (SmT T 1 K) c)) (sgnS true r)∧EncF w (YY (zN (SmT T 0 K) c) (zN (SmT T 1 K) c)) (sgnS false r):=by
  obtain ⟨a0,e0,l0,u0⟩:=smT_in hT 0 K
  obtain ⟨a1,e1,l1,u1⟩:=smT_in hT 1 K
  have q:12*r K≤11*((c:Rat)*p2 (-w)):=by
    have p:=rmR hK (rlL (qL (-w)))
    have i:=p2_neg w
    have e:12*(r K*p2 w)*p2 (-w)=12*r K:=by rw [show 12*(r K*p2 w)*p2 (-w)=12*(r K*(p2 w*p2 (-w))) by grind,Rat.mul_comm (p2 w),i,Rat.mul_one]
    rw [e] at p
    grind
  have x:=altG_enc h0 h (K:=K) (scale_le l0) (div_p2_le u0) (scale_le l1) (div_p2_le u1) q
  have y:=sumG_enc h0 h (K:=K) (scale_le l0) (div_p2_le u0) (scale_le l1) (div_p2_le u1) q
  unfold EncF
  constructor
  · refine x.wide ?_ ?_
    · show ((((SmT T 0 K).a-((SmT T 1 K).a+((SmT T 1 K).e+c)):Int)):Rat)*p2 (-w)≤_
      rw [Rat.intCast_sub,rcA,rcA,rcA];grind
    · show _≤((((SmT T 0 K).a-((SmT T 1 K).a+((SmT T 1 K).e+c)))+((SmT T 0 K).e+c+((SmT T 1 K).e+c)):Int):Rat)*p2 (-w)
      rw [show (SmT T 0 K).a-((SmT T 1 K).a+((SmT T 1 K).e+c))+((SmT T 0 K).e+c+((SmT T 1 K).e+c))=(SmT T 0 K).a+(SmT T 0 K).e+c-(SmT T 1 K).a by omega,Rat.intCast_sub,rcA,rcA]
      rw [rcA];grind
  · refine y.wide ?_ ?_
    · show (((SmT T 0 K).a+(SmT T 1 K).a:Int):Rat)*p2 (-w)≤_
      rw [rcA];grind
    · show _≤(((SmT T 0 K).a+(SmT T 1 K).a+((SmT T 0 K).e+c+((SmT T 1 K).e+c)):Int):Rat)*p2 (-w)
      simp only [rcA];grind
def apow(n:Int):Nat→Rat
  | 0=>(n:Rat)⁻¹
  | k+1=>apow n k*((n*n:Int):Rat)⁻¹
def atT(n:Int)(k:Nat):Rat:=apow n k*((2*(k:Int)+1:Int):Rat)⁻¹
theorem apow_nonneg{n:Int}(hn:0<n):∀ k,0≤apow n k
  | 0=>rlL (Rat.inv_pos.2 (QA (a:=0).2 hn))
  | k+1=>rmN (apow_nonneg hn k) (rlL (Rat.inv_pos.2 (QA (a:=0).2 (Int.mul_pos hn hn))))
theorem Yv{n:Int}(hn:0<n)(k:Nat):0≤atT n k:=rmN (apow_nonneg hn k) (rlL (Rat.inv_pos.2 (QA (a:=0).2 (by omega))))
theorem atT_mul(n:Int)(k:Nat):atT n k*((2*(k:Int)+1:Int):Rat)=apow n k:=by
  have h:((2*(k:Int)+1:Int):Rat)≠0:=by
    have:=QA (a:=0) (b:=2*(k:Int)+1).2 (by omega)
    grind
  rw [atT,Rat.mul_assoc,Rat.inv_mul_cancel _ h,Rat.mul_one]
theorem sq_ge{n:Int}(hn:5≤n):25≤n*n:=by
  have:=Int.mul_le_mul hn hn (by omega) (by omega)
  omega
theorem atT_fall{n:Int}(hn:5≤n)(k:Nat):12*atT n (k+1)≤atT n k:=by
  have a:=atT_mul n k
  have b:=atT_mul n (k+1)
  have hN:(25:Rat)≤((n*n:Int):Rat):=zG (a:=25).2 (sq_ge hn)
  have e:apow n (k+1)*((n*n:Int):Rat)=apow n k:=by
    rw [apow,Rat.mul_assoc,Rat.inv_mul_cancel _ (by grind),Rat.mul_one]
  rw [←b] at e
  rw [←e] at a
  have m0:=Yv (show 0<n by omega) (k+1)
  have c:(1:Rat)≤((2*(k:Int)+1:Int):Rat):=zG (a:=1).2 (by omega)
  have d:((2*((k+1:Nat):Int)+1:Int):Rat)=((2*(k:Int)+1:Int):Rat)+2:=by
    rw [show (2*((k+1:Nat):Int)+1:Int)=2*(k:Int)+1+2 by omega,rcA];rfl
  rw [d] at a
  generalize ((2*(k:Int)+1:Int):Rat)=u at *
  have x1:=rmN m0 (show 0≤u by grind)
  have x2:=rmL hN (show 0≤atT n (k+1)*(u+2) by have:=rmN m0 (show 0≤u+2 by grind);exact this)
  refine Rat.not_lt.1 fun g=>?_
  have x3:=Rat.mul_lt_mul_of_pos_right g (show 0<u by grind)
  grind
def Xi(n w:Int):Nat→Fx
  | 0=>qE ⟨2^w.toNat,0⟩ n
  | k+1=>qE (Xi n w k) (n*n)
def invT(n w:Int):Nat→Fx
  | 0=>Xi n w 0
  | k+1=>qE (Xi n w (k+1)) (2*((k+1:Nat):Int)+1)
structure InvOk (n w:Int):Prop where
  n0:5≤n
  n1:n≤10000
  w0:32≤w
  w1:w≤65536
section
variable {n w:Int} (h:InvOk n w)
include h
theorem Xn:∀ k,InF w (Xi n w k) (apow n k)
  | 0=>by
    have:=h.n0
    have k:=(InF.one (w:=w) (by have:=h.w0;omega)).short (d:=n) (by omega)
    rwa [Rat.one_mul] at k
  | k+1=>(Xn k).short (d:=n*n) (by have:=sq_ge h.n0;omega)
theorem invT_in:∀ k,InF w (invT n w k) (atT n k)
  | 0=>by
    have e:atT n 0=apow n 0:=by have:=atT_mul n 0;rw [←this];simp
    rw [e];exact Xn h 0
  | k+1=>(Xn h (k+1)).short (by omega)
theorem invP_e:∀ k,(Xi n w k).e=2
  | 0=>by show 0/n+2=2;simp
  | k+1=>by
    show (Xi n w k).e/(n*n)+2=2
    rw [invP_e k,Int.ediv_eq_zero_of_lt (by omega) (by have:=sq_ge h.n0;omega)];omega
theorem invT_e:∀ k,(invT n w k).e=2
  | 0=>invP_e h 0
  | k+1=>by
    show (Xi n w (k+1)).e/_+2=2
    rw [invP_e h,Int.ediv_eq_zero_of_lt (by omega) (by omega)];omega
theorem invP_small:∀ k,(Xi n w k).a*2^k≤2^w.toNat
  | 0=>by
    show 2^w.toNat/n*2^0≤2^w.toNat
    have:=Int.ediv_le_self n (show (0:Int)≤2^w.toNat by have:=two_pow_pos w.toNat;omega)
    omega
  | k+1=>by
    have ih:=invP_small k
    have a0:=(Xn h k).a0
    have q:(Xi n w k).a/(n*n)≤(Xi n w k).a/2:=Y3 a0 (by omega) (by have:=sq_ge h.n0;omega)
    show (Xi n w k).a/(n*n)*2^(k+1)≤2^w.toNat
    have p:=two_pow_pos k
    have m:=imR (show 2*((Xi n w k).a/(n*n))≤(Xi n w k).a by omega) (show (0:Int)≤2^k by omega)
    rw [Int.pow_succ]
    have e:(Xi n w k).a/(n*n)*(2^k*2)=2*((Xi n w k).a/(n*n))*2^k:=by rw [Int.mul_comm (2^k:Int) 2,←Int.mul_assoc,Int.mul_comm ((Xi n w k).a/(n*n)) 2]
    rw [e];omega
theorem invT_le(k:Nat):(invT n w k).a≤(Xi n w k).a:=by
  cases k with
  | zero=>exact Int.le_refl _
  | succ k=>exact Int.ediv_le_self _ (Xn h (k+1)).a0
theorem invT_end:(invT n w (w.toNat+1)).a=0:=by
  have a:=invP_small h (w.toNat+1)
  have b:=invT_le h (w.toNat+1)
  have c:=(invT_in h (w.toNat+1)).a0
  have p:=two_pow_pos w.toNat
  have z:(Xi n w (w.toNat+1)).a<1:=by
    refine Int.not_le.1 fun g=>?_
    have m:=imR g (show (0:Int)≤2^(w.toNat+1) by have:=two_pow_pos (w.toNat+1);omega)
    rw [Int.one_mul] at m
    have e:(2:Int)^(w.toNat+1)=2*2^w.toNat:=by rw [Int.pow_succ];omega
    omega
  omega
def invK(n w:Int):Nat:=findK (fun k=>decide ((invT n w k).a=0)) 1048576 1
theorem invK_spec:1≤invK n w∧(invK n w:Int)≤w+1∧(invT n w (invK n w)).a=0∧∀ k,1≤k→k<invK n w→(invT n w k).a≠0:=by
  have w0:=h.w0
  have w1:=h.w1
  obtain ⟨a,b,c,d⟩:=findK_spec (P:=fun k=>decide ((invT n w k).a=0)) 1048576 1 (w.toNat+1) (by omega) (by omega) (by simpa using invT_end h)
  exact ⟨a,by unfold invK;omega,of_decide_eq_true c,fun k x y=>of_decide_eq_false (d k x y)⟩
end
def Yc(n w:Int)(b:Nat):Fx:=zN (SmT (invT n w) b (invK n w)) ((invT n w (invK n w)).e+4)
def Xq(n w:Int)(turned:Bool):Fx:=if turned=true then subF (Yc n w 0) (Yc n w 1) else YY (Yc n w 0) (Yc n w 1)
theorem invS_enc{n w:Int}(h:InvOk n w)(turned:Bool):EncF w (Xq n w turned) (sgnS turned (atT n)):=by
  obtain ⟨k1,k2,k3,k4⟩:=invK_spec h
  have u:=(invT_in h (invK n w)).2.2.2
  rw [k3,invT_e h] at u
  have e:=altT_encF (w:=w) (T:=invT n w) (r:=atT n) (invT_in h) (Yv (by have:=h.n0;omega)) (atT_fall h.n0) (K:=invK n w) (c:=6) (by
    have:((0+2:Int):Rat)=2:=rfl
    rw [this] at u
    have:((6:Int):Rat)=6:=rfl
    rw [this];grind)
  unfold Xq Yc
  rw [invT_e h]
  cases turned with
  | true=>rw [if_pos rfl];exact e.1
  | false=>rw [if_neg (by simp)];exact e.2
section
variable {n w:Int} (h:InvOk n w)
include h
theorem invP_half(k:Nat):25*(Xi n w (k+1)).a≤(Xi n w k).a:=by
  have a0:=(Xn h k).a0
  have q:(Xi n w k).a/(n*n)≤(Xi n w k).a/25:=Y3 a0 (by omega) (sq_ge h.n0)
  show 25*((Xi n w k).a/(n*n))≤(Xi n w k).a
  omega
theorem smI_a(b:Nat):∀ k,0≤(SmT (invT n w) b k).a∧(SmT (invT n w) b k).a+2*(Xi n w k).a≤2*(Xi n w 0).a
  | 0=>⟨Int.le_refl _,by show 0+2*(Xi n w 0).a≤_;omega⟩
  | k+1=>by
    obtain ⟨i0,i1⟩:=smI_a b k
    have p:=invP_half h k
    have p0:=(Xn h (k+1)).a0
    have t:=invT_le h k
    have t0:=(invT_in h k).a0
    unfold SmT
    split
    · exact ⟨by show 0≤_+_;omega,by show _+(invT n w k).a+_≤_;omega⟩
    · exact ⟨i0,by omega⟩
theorem smI_e(b:Nat):∀ k,0≤(SmT (invT n w) b k).e∧(SmT (invT n w) b k).e≤2*(k:Int)
  | 0=>⟨Int.le_refl _,by show (0:Int)≤_;omega⟩
  | k+1=>by
    obtain ⟨i0,i1⟩:=smI_e b k
    have t:=invT_e h k
    unfold SmT
    split
    · exact ⟨by show 0≤_+_;omega,by show _+(invT n w k).e≤_;omega⟩
    · exact ⟨i0,by omega⟩
theorem smI_even:∀ k,(Xi n w 0).a≤(SmT (invT n w) 0 (k+1)).a
  | 0=>by
    show _≤(YY ⟨0,0⟩ (invT n w 0)).a
    show (Xi n w 0).a≤0+(Xi n w 0).a
    omega
  | k+1=>by
    have i:=smI_even k
    have t0:=(invT_in h (k+1)).a0
    rw [SmT]
    split
    · show _≤_+_;omega
    · exact i
theorem smI_odd:∀ k,(SmT (invT n w) 1 (k+1)).a+2*(Xi n w (k+1)).a≤2*(Xi n w 1).a
  | 0=>by
    show (0:Int)+2*(Xi n w 1).a≤2*(Xi n w 1).a
    omega
  | k+1=>by
    have i:=smI_odd k
    have p:=invP_half h (k+1)
    have p0:=(Xn h (k+1+1)).a0
    have t:=invT_le h (k+1)
    rw [SmT]
    split
    · show _+(invT n w (k+1)).a+_≤_;omega
    · omega
theorem invR_bd:(Xi n w 0).a≤(Yc n w 0).a∧(Yc n w 0).a≤2*(Xi n w 0).a∧0≤(Yc n w 1).a∧25*(Yc n w 1).a≤2*(Xi n w 0).a∧6≤(Yc n w 0).e∧(Yc n w 0).e≤2*w+8∧6≤(Yc n w 1).e∧(Yc n w 1).e≤2*w+8:=by
  obtain ⟨k1,k2,k3,k4⟩:=invK_spec h
  obtain ⟨j,hj⟩:∃ j,invK n w=j+1:=⟨invK n w-1,by omega⟩
  have a:=smI_a h 0 (invK n w)
  have b:=smI_a h 1 (invK n w)
  have c:=smI_e h 0 (invK n w)
  have d:=smI_e h 1 (invK n w)
  have e:=smI_even h j
  have f:=smI_odd h j
  have g:=(Xn h (j+1)).a0
  have i:=invP_half h 0
  have p:=(Xn h (invK n w)).a0
  have te:=invT_e h (invK n w)
  rw [←hj] at e f g
  unfold Yc zN
  rw [te]
  show (Xi n w 0).a≤(SmT (invT n w) 0 (invK n w)).a∧(SmT (invT n w) 0 (invK n w)).a≤_∧0≤(SmT (invT n w) 1 (invK n w)).a∧25*(SmT (invT n w) 1 (invK n w)).a≤_∧6≤(SmT (invT n w) 0 (invK n w)).e+(2+4)∧(SmT (invT n w) 0 (invK n w)).e+(2+4)≤_∧6≤(SmT (invT n w) 1 (invK n w)).e+(2+4)∧(SmT (invT n w) 1 (invK n w)).e+(2+4)≤_
  refine ⟨e,by omega,b.1,?_,by omega,by omega,by omega,by omega⟩
  have i':25*(Xi n w 1).a≤(Xi n w 0).a:=i
  omega
end
theorem pow_big:∀ k:Nat,((k:Int)+1)*4294967296≤2^(k+32)
  | 0=>by decide
  | k+1=>by
    have i:=pow_big k
    have e:(2:Int)^(k+1+32)=2*2^(k+32):=by rw [show k+1+32=k+32+1 by omega,Int.pow_succ];omega
    rw [e]
    omega
theorem InvOk.big{n w:Int}(h:InvOk n w):429496*(w-31)≤(Xi n w 0).a+1:=by
  have w0:=h.w0
  have n0:=h.n0
  have n1:=h.n1
  have p:=pow_big (w.toNat-32)
  rw [show w.toNat-32+32=w.toNat by omega] at p
  show 429496*(w-31)≤2^w.toNat/n+1
  have q:2^w.toNat/10000≤2^w.toNat/n:=Y3 (by have:=two_pow_pos w.toNat;omega) (by omega) n1
  omega
theorem Enc.scale{s:Nat→Rat}{a b c:Rat}(h:Enc s a b)(hc:0≤c):Enc (fun n=>c*s n) (c*a) (c*b):=by
  refine Enc.mul (Enc.const c) h ?_
  have l:=rmL h.self hc
  rintro x y (rfl | rfl) (rfl | rfl)<;>exact ⟨by grind,by grind⟩
def QH(z:Fx)(n:Int):Fx:=⟨z.a*n,z.e*n⟩
theorem EncF.times{w:Int}{z:Fx}{s:Nat→Rat}(h:EncF w z s){n:Int}(hn:0≤n):EncF w (QH z n) (fun m=>(n:Rat)*s m):=by
  have k:=h.scale (c:=(n:Rat)) (by rw [show (0:Rat)=((0:Int):Rat) from rfl];exact zG.2 hn)
  unfold EncF QH
  refine k.wide ?_ ?_
  · show ((z.a*n:Int):Rat)*p2 (-w)≤_
    rw [rcM];grind
  · show _≤((z.a*n+z.e*n:Int):Rat)*p2 (-w)
    rw [←Int.add_mul,rcM];grind
theorem EncF.sub{w:Int}{x y:Fx}{s t:Nat→Rat}(h:EncF w x s)(k:EncF w y t):EncF w (subF x y) (fun m=>s m + -t m):=by
  have e:=h.add k.neg
  unfold EncF subF
  refine e.wide ?_ ?_
  · show ((x.a-(y.a+y.e):Int):Rat)*p2 (-w)≤_
    rw [Rat.intCast_sub];grind
  · show _≤((x.a-(y.a+y.e)+(x.e+y.e):Int):Rat)*p2 (-w)
    rw [show x.a-(y.a+y.e)+(x.e+y.e)=x.a+x.e-y.a by omega,Rat.intCast_sub];grind
def piF(w:Int):Fx:=subF (QH (Xq 5 w true) 16) (QH (Xq 239 w true) 4)
def piS(m:Nat):Rat:=16*sgnS true (atT 5) m + -(4*sgnS true (atT 239) m)
theorem piF_enc{w:Int}(w0:32≤w)(w1:w≤65536):EncF w (piF w) piS :=
  ((invS_enc ⟨by omega,by omega,w0,w1⟩ true).times (n:=16) (by omega)).sub ((invS_enc ⟨by omega,by omega,w0,w1⟩ true).times (n:=4) (by omega))
def ZU(n w:Int):Nat→Fx
  | 0=>qE ⟨2^w.toNat,0⟩ n
  | k+1=>qE (qE (ZU n w k) n) n
def Yx(n w:Int):Nat→Fx
  | 0=>ZU n w 0
  | k+1=>qE (ZU n w (k+1)) (2*((k+1:Nat):Int)+1)
section
variable {n w:Int} (h:InvOk n w)
include h
theorem YL:∀ k,InF w (ZU n w k) (apow n k)
  | 0=>by
    have:=h.n0
    have k:=(InF.one (w:=w) (by have:=h.w0;omega)).short (d:=n) (by omega)
    rwa [Rat.one_mul] at k
  | k+1=>by
    have n0:=h.n0
    have i:=((YL k).short (d:=n) (by omega)).short (d:=n) (by omega)
    have e:apow n (k+1)=apow n k*(n:Rat)⁻¹*(n:Rat)⁻¹:=by
      rw [apow,rcM,Rat.inv_mul_rev,Rat.mul_assoc]
    rw [e];exact i
theorem refT_in:∀ k,InF w (Yx n w k) (atT n k)
  | 0=>by
    have e:atT n 0=apow n 0:=by have:=atT_mul n 0;rw [←this];simp
    rw [e];exact YL h 0
  | k+1=>(YL h (k+1)).short (by omega)
theorem refP_e:∀ k,(ZU n w k).e=2
  | 0=>by show 0/n+2=2;simp
  | k+1=>by
    have n0:=h.n0
    show ((ZU n w k).e/n+2)/n+2=2
    have z:(2:Int)/n=0:=Int.ediv_eq_zero_of_lt (by omega) (by omega)
    rw [refP_e k,z,Int.zero_add,z];omega
theorem refT_e:∀ k,(Yx n w k).e=2
  | 0=>refP_e h 0
  | k+1=>by
    show (ZU n w (k+1)).e/_+2=2
    rw [refP_e h,Int.ediv_eq_zero_of_lt (by omega) (by omega)];omega
theorem refP_half(k:Nat):25*(ZU n w (k+1)).a≤(ZU n w k).a:=by
  have a0:=(YL h k).a0
  have n0:=h.n0
  have q0:=Int.ediv_nonneg a0 (show (0:Int)≤n by omega)
  have q1:(ZU n w k).a/n≤(ZU n w k).a/5:=Y3 a0 (by omega) n0
  have q2:(ZU n w k).a/n/n≤(ZU n w k).a/n/5:=Y3 q0 (by omega) n0
  show 25*((ZU n w k).a/n/n)≤(ZU n w k).a
  omega
theorem refT_le(k:Nat):(Yx n w k).a≤(ZU n w k).a:=by
  cases k with
  | zero=>exact Int.le_refl _
  | succ k=>exact Int.ediv_le_self _ (YL h (k+1)).a0
theorem refP_small:∀ k,(ZU n w k).a*2^k≤2^w.toNat
  | 0=>by
    show 2^w.toNat/n*2^0≤2^w.toNat
    have:=Int.ediv_le_self n (show (0:Int)≤2^w.toNat by have:=two_pow_pos w.toNat;omega)
    omega
  | k+1=>by
    have ih:=refP_small k
    have a0:=(YL h (k+1)).a0
    have q:=refP_half h k
    have m:=imR (show 2*(ZU n w (k+1)).a≤(ZU n w k).a by omega) (show (0:Int)≤2^k by have:=two_pow_pos k;omega)
    rw [Int.pow_succ]
    have e:(ZU n w (k+1)).a*(2^k*2)=2*(ZU n w (k+1)).a*2^k:=by rw [Int.mul_comm (2^k:Int) 2,←Int.mul_assoc,Int.mul_comm (ZU n w (k+1)).a 2]
    rw [e];omega
theorem refP_end:(ZU n w (w.toNat+1)).a=0:=by
  have a:=refP_small h (w.toNat+1)
  have c:=(YL h (w.toNat+1)).a0
  have p:=two_pow_pos w.toNat
  have z:(ZU n w (w.toNat+1)).a<1:=by
    refine Int.not_le.1 fun g=>?_
    have m:=imR g (show (0:Int)≤2^(w.toNat+1) by have:=two_pow_pos (w.toNat+1);omega)
    rw [Int.one_mul] at m
    have e:(2:Int)^(w.toNat+1)=2*2^w.toNat:=by rw [Int.pow_succ];omega
    omega
  omega
def refK(n w:Int):Nat:=findK (fun k=>decide ((ZU n w k).a=0)) 1048576 0
theorem refK_spec:(refK n w:Int)≤w+1∧(ZU n w (refK n w)).a=0∧∀ k,k<refK n w→(ZU n w k).a≠0:=by
  have w0:=h.w0
  have w1:=h.w1
  obtain ⟨a,b,c,d⟩:=findK_spec (P:=fun k=>decide ((ZU n w k).a=0)) 1048576 0 (w.toNat+1) (by omega) (by omega) (by simpa using refP_end h)
  exact ⟨by unfold refK;omega,of_decide_eq_true c,fun k y=>of_decide_eq_false (d k (Nat.zero_le _) y)⟩
theorem smR_a(b:Nat):∀ k,0≤(SmT (Yx n w) b k).a∧(SmT (Yx n w) b k).a+2*(ZU n w k).a≤2*(ZU n w 0).a
  | 0=>⟨Int.le_refl _,by show 0+2*(ZU n w 0).a≤_;omega⟩
  | k+1=>by
    obtain ⟨i0,i1⟩:=smR_a b k
    have p:=refP_half h k
    have p0:=(YL h (k+1)).a0
    have t:=refT_le h k
    have t0:=(refT_in h k).a0
    unfold SmT
    split
    · exact ⟨by show 0≤_+_;omega,by show _+(Yx n w k).a+_≤_;omega⟩
    · exact ⟨i0,by omega⟩
theorem smR_e(b:Nat):∀ k,0≤(SmT (Yx n w) b k).e∧(SmT (Yx n w) b k).e≤2*(k:Int)
  | 0=>⟨Int.le_refl _,by show (0:Int)≤_;omega⟩
  | k+1=>by
    obtain ⟨i0,i1⟩:=smR_e b k
    have t:=refT_e h k
    unfold SmT
    split
    · exact ⟨by show 0≤_+_;omega,by show _+(Yx n w k).e≤_;omega⟩
    · exact ⟨i0,by omega⟩
theorem smR_even:∀ k,(ZU n w 0).a≤(SmT (Yx n w) 0 (k+1)).a
  | 0=>by
    show (ZU n w 0).a≤0+(ZU n w 0).a
    omega
  | k+1=>by
    have i:=smR_even k
    have t0:=(refT_in h (k+1)).a0
    rw [SmT]
    split
    · show _≤_+_;omega
    · exact i
theorem smR_odd:∀ k,(SmT (Yx n w) 1 (k+1)).a+2*(ZU n w (k+1)).a≤2*(ZU n w 1).a
  | 0=>by
    show (0:Int)+2*(ZU n w 1).a≤2*(ZU n w 1).a
    omega
  | k+1=>by
    have i:=smR_odd k
    have p:=refP_half h (k+1)
    have p0:=(YL h (k+1+1)).a0
    have t:=refT_le h (k+1)
    rw [SmT]
    split
    · show _+(Yx n w (k+1)).a+_≤_;omega
    · omega
end
def refS(n w:Int):Fx:=subF (zN (SmT (Yx n w) 0 (refK n w+1)) 4) (zN (SmT (Yx n w) 1 (refK n w+1)) 4)
theorem refS_enc{n w:Int}(h:InvOk n w):EncF w (refS n w) (sgnS true (atT n)):=by
  obtain ⟨k2,k3,k4⟩:=refK_spec h
  have u:=(YL h (refK n w)).2.2.2
  rw [k3,refP_e h] at u
  refine (altT_encF (w:=w) (T:=Yx n w) (r:=atT n) (refT_in h) (Yv (by have:=h.n0;omega)) (atT_fall h.n0) (K:=refK n w+1) (c:=4) ?_).1
  have f:=atT_fall h.n0 (refK n w)
  have m:=atT_mul n (refK n w)
  have t0:=Yv (show 0<n by have:=h.n0;omega) (refK n w)
  have c:(1:Rat)≤((2*(refK n w:Int)+1:Int):Rat):=zG (a:=1).2 (by omega)
  have m1:=rmL c t0
  rw [m] at m1
  have m2:=rmR (show 12*atT n (refK n w+1)≤apow n (refK n w) by grind) (rlL (qL w))
  have e2:((0+2:Int):Rat)=2:=rfl
  have e4:((4:Int):Rat)=4:=rfl
  rw [e2] at u
  rw [e4]
  grind
def piR(w:Int):Fx:=subF (QH (refS 5 w) 16) (QH (refS 239 w) 4)
theorem piR_enc{w:Int}(w0:32≤w)(w1:w≤65536):EncF w (piR w) piS :=
  ((refS_enc ⟨by omega,by omega,w0,w1⟩).times (n:=16) (by omega)).sub ((refS_enc ⟨by omega,by omega,w0,w1⟩).times (n:=4) (by omega))
def wInv(gP:Fx→Int→Fx)(gT:Fx→Int→Int→Fx)(pr:Fx→Int→Int→Prop):qU:=fun l=>match l with
  | [.agg [.words false ps,.int .u64 pe],.agg [.words false _,.int .u64 _],.one (.int .i64 k),.one (.ptr 0 0),.one (.ref [.int .u64 sq])] =>
    (some (ps=ws (val ps)∧pr ⟨val ps,pe⟩ k sq),.tup [.agg (fwL false (fw (gP ⟨val ps,pe⟩ sq))),.agg (fwL false (fw (gT ⟨val ps,pe⟩ k sq)))])
  | _=>ZL
def sI1:List (FuncId×qU):=[(185,seShort)]
theorem sI1_ok:SpecsOk Tryz.prog sI1:=⟨seShort_ok,trivial⟩
theorem cInv_vc(ps xs:List Int)(pe e k sq:Int)(Q:Tv→Prop):execFE ⟨tys3,sI1⟩ (fun _=>none) 0 Tryz.f209 [.words false ps,.int .u64 pe] [.agg [.words false xs,.int .u64 e],.one (.int .i64 k),.one (.ptr 0 0),.one (.ref [.int .u64 sq])] Q=(((0:Int)≤pe∧pe≤1099511627776∧(0:Int)<sq∧sq<18446744073709551616)∧inR ((2:Int)*k)∧inR ((2:Int)*k+1)∧((0:Int)≤(fw (qE (Fw.f (Fw.mk ps pe)) sq)).e∧(fw (qE (Fw.f (Fw.mk ps pe)) sq)).e≤1099511627776∧(0:Int)<IntKind.wrap IntKind.u64 ((2:Int)*k+1)∧IntKind.wrap IntKind.u64 ((2:Int)*k+1)<18446744073709551616)∧Q (Tv.tup [Sv.agg (fwL false (fw (qE (Fw.f (Fw.mk ps pe)) sq))),Sv.agg (fwL false (fw (qE (Fw.f (fw (qE (Fw.f (Fw.mk ps pe)) sq))) (IntKind.wrap IntKind.u64 ((2:Int)*k+1)))))])):=by kernel_rfl
def gPI(x:Fx)(sq:Int):Fx:=qE x sq
def gTI(x:Fx)(k sq:Int):Fx:=qE (qE x sq) (2*k+1)
def prI(x:Fx)(k sq:Int):Prop:=x.Ok∧x.e≤549755813888∧0<sq∧sq<18446744073709551616∧1≤k∧k≤1048577
theorem cInv_ok:EffOk Tryz.prog 209 (wInv gPI gTI prI) :=
  effOk_pat (qO QM sI1_ok) mixed Tryz.func209 rfl (by decide) 4 (by decide) fun l args p t _ _ e hp=>by
    unfold wInv at e
    split at e
    · rename_i ps pe xs e0 k sq heq
      cases heq
      cases e
      obtain ⟨hx,ox,xe,s0,s1,k0,k1⟩:ps=ws (val ps)∧prI ⟨val ps,pe⟩ k sq:=hp
      have z:=shortF_e0 (x:=⟨val ps,pe⟩) (d:=sq) ox.1 ox.2.2.1 s0
      refine ⟨Nat.le_refl 4,fun _=>none,0,(cInv_vc ps xs pe e0 k sq _).mpr ?_⟩
      have e1:IntKind.u64.wrap (2*k+1)=2*k+1:=ZY ⟨by omega,by omega⟩
      have e2:(fw (qE ⟨val ps,pe⟩ sq)).f=qE ⟨val ps,pe⟩ sq:=XD z.1
      have e3:(Fw.mk ps pe).f=⟨val ps,pe⟩:=rfl
      have e4:∀ z:Fx,(fw z).e=z.e:=fun _=>rfl
      have b1:(0:Int)≤pe:=ox.2.2.1
      have b2:pe≤549755813888:=xe
      have b3:=z.2.2
      have b4:(⟨val ps,pe⟩:Fx).e=pe:=rfl
      rw [e3,e2,e1,e4]
      exact ⟨⟨by omega,by omega,s0,s1⟩,⟨by omega,by omega⟩,⟨by omega,by omega⟩,⟨by omega,by omega,by omega,by omega⟩,.inl rfl⟩
    · cases e;exact hp.elim
def pwQ(p0:Fx)(sq:Int):Nat→Fx
  | 0=>p0
  | k+1=>qE (pwQ p0 sq k) sq
def tmQ(p0:Fx)(sq:Int):Nat→Fx
  | 0=>p0
  | k+1=>qE (pwQ p0 sq (k+1)) (2*((k+1:Nat):Int)+1)
theorem pwQ_inv(n w:Int):∀ k,pwQ (qE ⟨2^w.toNat,0⟩ n) (n*n) k=Xi n w k
  | 0=>rfl
  | k+1=>by show qE (pwQ _ _ k) _=qE (Xi n w k) _;rw [pwQ_inv n w k]
theorem tmQ_inv(n w:Int)(k:Nat):tmQ (qE ⟨2^w.toNat,0⟩ n) (n*n) k=invT n w k:=by
  cases k with
  | zero=>rfl
  | succ k=>show qE (pwQ _ _ (k+1)) _=qE (Xi n w (k+1)) _;rw [pwQ_inv]
def kQ(p0:Fx)(sq:Int):Nat:=findK (fun k=>decide ((tmQ p0 sq k).a=0)) 1048576 1
def sumQ(p0:Fx)(sq:Int)(b:Nat):Fx:=zN (SmT (tmQ p0 sq) b (kQ p0 sq)) ((tmQ p0 sq (kQ p0 sq)).e+4)
def QOk(p0:Fx)(sq:Int):Prop :=
  1≤kQ p0 sq∧kQ p0 sq≤1048577∧(tmQ p0 sq (kQ p0 sq)).a=0∧(∀ k,1≤k→k<kQ p0 sq→(tmQ p0 sq k).a≠0)∧(∀ k,k<kQ p0 sq→prI (pwQ p0 sq k) ((k:Int)+1) sq) ∧
    (∀ k,k≤kQ p0 sq→((tmQ p0 sq k).Ok∧(tmQ p0 sq k).e≤549755813888)∧(SmT (tmQ p0 sq) 0 k).Ok∧(SmT (tmQ p0 sq) 1 k).Ok)
def sSmI(gP:Fx→Int→Fx)(gT:Fx→Int→Int→Fx)(pr:Fx→Int→Int→Prop):List (FuncId×qU):=[(205,seAdd),(186,seWid),(209+effK,wInv gP gT pr)]
theorem sSmI_ok:SpecsOk Tryz.prog (sSmI gPI gTI prI):=⟨seAdd_ok,seWid_ok,cInv_ok,trivial⟩
def siK:LKeep:=⟨[1,4,5,6,7,8],[(0,2),(2,2),(3,2),(5,4),(8,2)],11⟩
def invFn(sq:Int):At:=.fn 209 [.ptr 0 0,.ref [.int .u64 sq]]
def siCells(P T S0 S1:Nat→Fx)(k j:Nat)(n0 n1:Bool):List (Nat×Nat×At) :=
  clX 0 0 false (fw (P k)) ++ ([(2,0,.words true []),(2,1,.int .u64 0),(3,0,.words true []),(3,1,.int .u64 0)] ++ (clX 5 0 n0 (fw (S0 j)) ++ (clX 5 2 n1 (fw (S1 j)) ++ clX 8 0 false (fw (T k)))))
def siSlots(sq:Int)(k:Nat):List (Nat×Tv):=[(1,.sv (.one (invFn sq))),(4,.sv (.one (.ptr 2 0))),(5,.sv (.one (.ptr 3 0))),(6,.sv (.one (.ptr 5 0))),(7,.sv (.one (.ptr 8 0))),(8,iT (k:Nat))]
def siSt(sq:Int)(P T S0 S1:Nat→Fx)(a:Nat×Bool×Bool):List (Nat×Tv)×List (Nat×Nat×At):=(siSlots sq a.1,siCells P T S0 S1 a.1 a.1 a.2.1 a.2.2)
def siSt7(sq:Int)(P T S0 S1:Nat→Fx)(a:Nat×Bool×Bool):List (Nat×Tv)×List (Nat×Nat×At):=(siSlots sq a.1,siCells P T S0 S1 a.1 (a.1+1) a.2.1 a.2.2)
def siCut(sq:Int)(P T S0 S1:Nat→Fx)(K:Nat)(a:Nat×Bool×Bool)(n:Nat):Option LInv :=
  match Nat.beq 6 n with
  | true=>some (.cut siK (Nat×Bool×Bool) (siSt sq P T S0 S1) (fun x=>x.1=a.1∧x.1<K))
  | false=>match Nat.beq 7 n with
    | true=>some (.cut siK (Nat×Bool×Bool) (siSt7 sq P T S0 S1) (fun x=>x.1=a.1∧x.1<K))
    | false=>none
def siInv(sq:Int)(P T S0 S1:Nat→Fx)(K:Nat):Nat→Option LInv :=
  invAt 4 (.relI siK (Nat×Bool×Bool) (siSt sq P T S0 S1) (fun a=>a.1≤K) (fun a=>K-a.1) (siCut sq P T S0 S1 K))
theorem sumI_vc(gP:Fx→Int→Fx)(gT:Fx→Int→Int→Fx)(pr:Fx→Int→Int→Prop)(P T S0 S1:Nat→Fx)(K:Nat)(t:Fw)(ps:List Int)(pe sq:Int)(Q:Tv→Prop):execFE ⟨tys4,sSmI gP gT pr⟩ (siInv sq P T S0 S1 K) 0 Tryz.f181 [.words false ps,.int .u64 pe] [.agg (fwL false t),.one (invFn sq)] Q=(true=true∧(∃ (a:Nat×Bool×Bool),a.fst≤K∧Sg.mk [(1,Tv.sv (Sv.one (At.fn 209 [At.ptr 0 0,At.ref [At.int .u64 sq]]))),(4,Tv.sv (Sv.one (At.ptr ((1:Nat)+1) 0))),(5,Tv.sv (Sv.one (At.ptr ((1:Nat)+2) 0))),(6,Tv.sv (Sv.one (At.ptr ((4:Nat)+1) 0))),(7,Tv.sv (Sv.one (At.ptr ((7:Nat)+1) 0))),(8,iT 0)] [(0,0,At.words false ps),(0,1,At.int .u64 pe),(2,0,At.words true []),(2,1,At.int .u64 0),(3,0,At.words true []),(3,1,At.int .u64 0),(5,0,At.words true []),(5,1,At.int .u64 0),(5,2,At.words true []),(5,3,At.int .u64 0),(8,0,At.words false t.xs),(8,1,At.int .u64 t.e)] 11=LKeep.at siK (siSt sq P T S0 S1 a))∧∀ (a:Nat×Bool×Bool),a.fst≤K→br (ltI 0 (↑(List.length (fw (T a.fst)).xs):Int)) (true=true∧∃ (x:Nat×Bool×Bool),(x.fst=a.fst∧x.fst<K)∧Sg.mk [(1,Tv.sv (Sv.one (At.fn 209 [At.ptr 0 0,At.ref [At.int .u64 sq]]))),(4,Tv.sv (Sv.one (At.ptr 2 0))),(5,Tv.sv (Sv.one (At.ptr 3 0))),(6,Tv.sv (Sv.one (At.ptr 5 0))),(7,Tv.sv (Sv.one (At.ptr 8 0))),(8,iT (↑a.fst:Int))] [(0,0,At.words false (fw (P a.fst)).xs),(0,1,At.int .u64 (fw (P a.fst)).e),(2,0,At.words true []),(2,1,At.int .u64 0),(3,0,At.words true []),(3,1,At.int .u64 0),(5,0,At.words a.snd.fst (fw (S0 a.fst)).xs),(5,1,At.int .u64 (fw (S0 a.fst)).e),(5,2,At.words a.snd.snd (fw (S1 a.fst)).xs),(5,3,At.int .u64 (fw (S1 a.fst)).e),(8,0,At.words false (fw (T a.fst)).xs),(8,1,At.int .u64 (fw (T a.fst)).e)] 11=LKeep.at siK (siSt sq P T S0 S1 x)) (br (eqI (↑a.fst:Int) 0) (true=true∧∃ (x:Nat×Bool×Bool),(x.fst=a.fst∧x.fst<K)∧Sg.mk [(1,Tv.sv (Sv.one (At.fn 209 [At.ptr 0 0,At.ref [At.int .u64 sq]]))),(4,Tv.sv (Sv.one (At.ptr 2 0))),(5,Tv.sv (Sv.one (At.ptr 3 0))),(6,Tv.sv (Sv.one (At.ptr 5 0))),(7,Tv.sv (Sv.one (At.ptr 8 0))),(8,iT (↑a.fst:Int))] [(0,0,At.words false (fw (P a.fst)).xs),(0,1,At.int .u64 (fw (P a.fst)).e),(2,0,At.words true []),(2,1,At.int .u64 0),(3,0,At.words true []),(3,1,At.int .u64 0),(5,0,At.words a.snd.fst (fw (S0 a.fst)).xs),(5,1,At.int .u64 (fw (S0 a.fst)).e),(5,2,At.words a.snd.snd (fw (S1 a.fst)).xs),(5,3,At.int .u64 (fw (S1 a.fst)).e),(8,0,At.words false (fw (T a.fst)).xs),(8,1,At.int .u64 (fw (T a.fst)).e)] 11=LKeep.at siK (siSt sq P T S0 S1 x)) (((0:Int)≤0∧(0:Int)<(↑(2:Nat):Int))∧(Fw.Ok (fw (S0 a.fst))∧(0:Int)≤IntKind.wrap IntKind.u64 ((fw (T a.fst)).e+4)∧IntKind.wrap IntKind.u64 ((fw (T a.fst)).e+4)≤1099511627776∧(fw (S0 a.fst)).xs=ws (val (fw (S0 a.fst)).xs))∧((0:Int)≤1∧(1:Int)<(↑(2:Nat):Int))∧(Fw.Ok (fw (S1 a.fst))∧(0:Int)≤IntKind.wrap IntKind.u64 ((fw (T a.fst)).e+4)∧IntKind.wrap IntKind.u64 ((fw (T a.fst)).e+4)≤1099511627776∧(fw (S1 a.fst)).xs=ws (val (fw (S1 a.fst)).xs))∧true=true∧Q (Tv.tup [Sv.agg (fwL false (fw (P a.fst))),Sv.agg (fwL false (fw (zN (Fw.f (fw (S0 a.fst))) (IntKind.wrap IntKind.u64 ((fw (T a.fst)).e+4))))),Sv.agg (fwL false (fw (zN (Fw.f (fw (S1 a.fst))) (IntKind.wrap IntKind.u64 ((fw (T a.fst)).e+4)))))])))∧∀ (x:Nat×Bool×Bool),x.fst=a.fst∧x.fst<K→((2:Int)≠0∧(2:Int)≠0∧br (eqI (Int.tmod (↑x.fst:Int) 2) 0) (((0:Int)≤Int.tmod (↑x.fst:Int) 2∧Int.tmod (↑x.fst:Int) 2<(↑(2:Nat):Int))∧(Fw.Ok (fw (S0 x.fst))∧Fw.Ok (fw (T x.fst)))∧br (eqI (Int.tmod (↑x.fst:Int) 2) 0) (((0:Int)≤Int.tmod (↑x.fst:Int) 2∧Int.tmod (↑x.fst:Int) 2<(↑(2:Nat):Int))∧true=true∧true=true∧∃ (x_1:Nat×Bool×Bool),(x_1.fst=a.fst∧x_1.fst<K)∧Sg.mk [(1,Tv.sv (Sv.one (At.fn 209 [At.ptr 0 0,At.ref [At.int .u64 sq]]))),(4,Tv.sv (Sv.one (At.ptr 2 0))),(5,Tv.sv (Sv.one (At.ptr 3 0))),(6,Tv.sv (Sv.one (At.ptr 5 0))),(7,Tv.sv (Sv.one (At.ptr 8 0))),(8,iT (↑x.fst:Int))] [(0,0,At.words false (fw (P x.fst)).xs),(0,1,At.int .u64 (fw (P x.fst)).e),(2,0,At.words true []),(2,1,At.int .u64 0),(3,0,At.words true []),(3,1,At.int .u64 0),(5,0,At.words false (fw (YY (Fw.f (fw (S0 x.fst))) (Fw.f (fw (T x.fst))))).xs),(5,1,At.int .u64 (fw (YY (Fw.f (fw (S0 x.fst))) (Fw.f (fw (T x.fst))))).e),(5,2,At.words x.snd.snd (fw (S1 x.fst)).xs),(5,3,At.int .u64 (fw (S1 x.fst)).e),(8,0,At.words false (fw (T x.fst)).xs),(8,1,At.int .u64 (fw (T x.fst)).e)] 11=LKeep.at siK (siSt7 sq P T S0 S1 x_1)) (((0:Int)≤Int.tmod (↑x.fst:Int) 2∧Int.tmod (↑x.fst:Int) 2<(↑(2:Nat):Int))∧true=true∧true=true∧∃ (x_1:Nat×Bool×Bool),(x_1.fst=a.fst∧x_1.fst<K)∧Sg.mk [(1,Tv.sv (Sv.one (At.fn 209 [At.ptr 0 0,At.ref [At.int .u64 sq]]))),(4,Tv.sv (Sv.one (At.ptr 2 0))),(5,Tv.sv (Sv.one (At.ptr 3 0))),(6,Tv.sv (Sv.one (At.ptr 5 0))),(7,Tv.sv (Sv.one (At.ptr 8 0))),(8,iT (↑x.fst:Int))] [(0,0,At.words false (fw (P x.fst)).xs),(0,1,At.int .u64 (fw (P x.fst)).e),(2,0,At.words true []),(2,1,At.int .u64 0),(3,0,At.words true []),(3,1,At.int .u64 0),(5,0,At.words x.snd.fst (fw (S0 x.fst)).xs),(5,1,At.int .u64 (fw (S0 x.fst)).e),(5,2,At.words false (fw (YY (Fw.f (fw (S0 x.fst))) (Fw.f (fw (T x.fst))))).xs),(5,3,At.int .u64 (fw (YY (Fw.f (fw (S0 x.fst))) (Fw.f (fw (T x.fst))))).e),(8,0,At.words false (fw (T x.fst)).xs),(8,1,At.int .u64 (fw (T x.fst)).e)] 11=LKeep.at siK (siSt7 sq P T S0 S1 x_1))) (((0:Int)≤Int.tmod (↑x.fst:Int) 2∧Int.tmod (↑x.fst:Int) 2<(↑(2:Nat):Int))∧(Fw.Ok (fw (S1 x.fst))∧Fw.Ok (fw (T x.fst)))∧br (eqI (Int.tmod (↑x.fst:Int) 2) 0) (((0:Int)≤Int.tmod (↑x.fst:Int) 2∧Int.tmod (↑x.fst:Int) 2<(↑(2:Nat):Int))∧true=true∧true=true∧∃ (x_1:Nat×Bool×Bool),(x_1.fst=a.fst∧x_1.fst<K)∧Sg.mk [(1,Tv.sv (Sv.one (At.fn 209 [At.ptr 0 0,At.ref [At.int .u64 sq]]))),(4,Tv.sv (Sv.one (At.ptr 2 0))),(5,Tv.sv (Sv.one (At.ptr 3 0))),(6,Tv.sv (Sv.one (At.ptr 5 0))),(7,Tv.sv (Sv.one (At.ptr 8 0))),(8,iT (↑x.fst:Int))] [(0,0,At.words false (fw (P x.fst)).xs),(0,1,At.int .u64 (fw (P x.fst)).e),(2,0,At.words true []),(2,1,At.int .u64 0),(3,0,At.words true []),(3,1,At.int .u64 0),(5,0,At.words false (fw (YY (Fw.f (fw (S1 x.fst))) (Fw.f (fw (T x.fst))))).xs),(5,1,At.int .u64 (fw (YY (Fw.f (fw (S1 x.fst))) (Fw.f (fw (T x.fst))))).e),(5,2,At.words x.snd.snd (fw (S1 x.fst)).xs),(5,3,At.int .u64 (fw (S1 x.fst)).e),(8,0,At.words false (fw (T x.fst)).xs),(8,1,At.int .u64 (fw (T x.fst)).e)] 11=LKeep.at siK (siSt7 sq P T S0 S1 x_1)) (((0:Int)≤Int.tmod (↑x.fst:Int) 2∧Int.tmod (↑x.fst:Int) 2<(↑(2:Nat):Int))∧true=true∧true=true∧∃ (x_1:Nat×Bool×Bool),(x_1.fst=a.fst∧x_1.fst<K)∧Sg.mk [(1,Tv.sv (Sv.one (At.fn 209 [At.ptr 0 0,At.ref [At.int .u64 sq]]))),(4,Tv.sv (Sv.one (At.ptr 2 0))),(5,Tv.sv (Sv.one (At.ptr 3 0))),(6,Tv.sv (Sv.one (At.ptr 5 0))),(7,Tv.sv (Sv.one (At.ptr 8 0))),(8,iT (↑x.fst:Int))] [(0,0,At.words false (fw (P x.fst)).xs),(0,1,At.int .u64 (fw (P x.fst)).e),(2,0,At.words true []),(2,1,At.int .u64 0),(3,0,At.words true []),(3,1,At.int .u64 0),(5,0,At.words x.snd.fst (fw (S0 x.fst)).xs),(5,1,At.int .u64 (fw (S0 x.fst)).e),(5,2,At.words false (fw (YY (Fw.f (fw (S1 x.fst))) (Fw.f (fw (T x.fst))))).xs),(5,3,At.int .u64 (fw (YY (Fw.f (fw (S1 x.fst))) (Fw.f (fw (T x.fst))))).e),(8,0,At.words false (fw (T x.fst)).xs),(8,1,At.int .u64 (fw (T x.fst)).e)] 11=LKeep.at siK (siSt7 sq P T S0 S1 x_1))))∧∀ (x:Nat×Bool×Bool),x.fst=a.fst∧x.fst<K→inR ((↑x.fst:Int)+1)∧((fw (P x.fst)).xs=ws (val (fw (P x.fst)).xs)∧pr (Fx.mk (val (fw (P x.fst)).xs) (fw (P x.fst)).e) ((↑x.fst:Int)+1) sq)∧inR ((↑x.fst:Int)+1)∧true=true∧∃ (a':Nat×Bool×Bool),a'.fst≤K∧Sg.mk [(1,Tv.sv (Sv.one (At.fn 209 [At.ptr 0 0,At.ref [At.int .u64 sq]]))),(4,Tv.sv (Sv.one (At.ptr 2 0))),(5,Tv.sv (Sv.one (At.ptr 3 0))),(6,Tv.sv (Sv.one (At.ptr 5 0))),(7,Tv.sv (Sv.one (At.ptr 8 0))),(8,iT ((↑x.fst:Int)+1))] [(0,0,At.words false (fw (gP (Fx.mk (val (fw (P x.fst)).xs) (fw (P x.fst)).e) sq)).xs),(0,1,At.int .u64 (fw (gP (Fx.mk (val (fw (P x.fst)).xs) (fw (P x.fst)).e) sq)).e),(2,0,At.words true []),(2,1,At.int .u64 0),(3,0,At.words true []),(3,1,At.int .u64 0),(5,0,At.words x.snd.fst (fw (S0 (x.fst+1))).xs),(5,1,At.int .u64 (fw (S0 (x.fst+1))).e),(5,2,At.words x.snd.snd (fw (S1 (x.fst+1))).xs),(5,3,At.int .u64 (fw (S1 (x.fst+1))).e),(8,0,At.words false (fw (gT (Fx.mk (val (fw (P x.fst)).xs) (fw (P x.fst)).e) ((↑x.fst:Int)+1) sq)).xs),(8,1,At.int .u64 (fw (gT (Fx.mk (val (fw (P x.fst)).xs) (fw (P x.fst)).e) ((↑x.fst:Int)+1) sq)).e)] 11=LKeep.at siK (siSt sq P T S0 S1 a')∧K-a'.fst<K-a.fst):=by kernel_rfl
def wSumI(gQ:Fx→Int→Nat→Fx)(pQ:Fx→Int→Fx)(pr:Fx→Int→Prop):qU:=fun l=>match l with
  | [.agg [.words false ps,.int .u64 pe],.agg [.words false xs,.int .u64 e],.one (.fn n [.ptr 0 0,.ref [.int .u64 sq]])]=>(match Nat.beq n 209 with
    | true=>(some (ps=ws (val ps)∧xs=ps∧e=pe∧pr ⟨val ps,pe⟩ sq),
        .tup [.agg (fwL false (fw (pQ ⟨val ps,pe⟩ sq))),.agg (fwL false (fw (gQ ⟨val ps,pe⟩ sq 0))),.agg (fwL false (fw (gQ ⟨val ps,pe⟩ sq 1)))])
    | false=>ZL)
  | _=>ZL
def endQ(p:Fx)(sq:Int):Fx:=pwQ p sq (kQ p sq)
def seSumI:qU:=wSumI sumQ endQ QOk
theorem seSumI_ok:EffOk Tryz.prog 181 seSumI :=
  effOk_pat (qO Zy sSmI_ok) mixed Tryz.func181 rfl (by decide) 2 (by decide) fun l args p t _ _ e hp=>by
    unfold seSumI wSumI at e
    split at e
    · rename_i ps pe xs e0 n sq heq
      cases heq
      split at e
      rotate_left
      · cases e;exact hp.elim
      rename_i hb
      obtain rfl:=Nat.eq_of_beq_eq_true hb
      cases e
      obtain ⟨hx,hxp,hep,c1,c2,c3,c4,c5,c6⟩:ps=ws (val ps)∧xs=ps∧e0=pe∧QOk ⟨val ps,pe⟩ sq:=hp
      subst hxp hep
      unfold sumQ endQ
      generalize hK:kQ ⟨val xs,e0⟩ sq=K at *
      generalize ht:(⟨val xs,e0⟩:Fx)=t at *
      have l0:∀ k,k≤K→(ltI 0 ((ws (tmQ t sq k).a).length:Nat)=decide ((tmQ t sq k).a≠0)):=fun k hk=>YV (c6 k hk).1.1.1
      refine ⟨Nat.le_refl 2,siInv sq (pwQ t sq) (tmQ t sq) (SmT (tmQ t sq) 0) (SmT (tmQ t sq) 1) K,0,(sumI_vc gPI gTI prI (pwQ t sq) (tmQ t sq) (SmT (tmQ t sq) 0) (SmT (tmQ t sq) 1) K ⟨xs,e0⟩ xs e0 sq _).mpr ?_⟩
      have ew:∀ z:Fx,(fw z).e=z.e:=fun _=>rfl
      have ex:∀ z:Fx,(fw z).xs=ws z.a:=fun _=>rfl
      have w4:∀ k,k≤K→IntKind.u64.wrap ((tmQ t sq k).e+4)=(tmQ t sq k).e+4:=fun k hk=>ZY ⟨by have:=(c6 k hk).1.1.2.2;omega,by have:=(c6 k hk).1.1.2.2;omega⟩
      have fwt:∀ k,k≤K→(fw (tmQ t sq k)).f=tmQ t sq k:=fun k hk=>XD (c6 k hk).1.1.1
      have fw0:∀ k,k≤K→(fw (SmT (tmQ t sq) 0 k)).f=SmT (tmQ t sq) 0 k:=fun k hk=>XD (c6 k hk).2.1.1
      have fw1:∀ k,k≤K→(fw (SmT (tmQ t sq) 1 k)).f=SmT (tmQ t sq) 1 k:=fun k hk=>XD (c6 k hk).2.2.1
      have vP:∀ k,k<K→val (ws (pwQ t sq k).a)=(pwQ t sq k).a:=fun k hk=>qN (c5 k hk).1.1
      refine ⟨rfl,⟨(0,true,true),Nat.zero_le _,?_⟩,fun a ha=>⟨qB (fun h=>⟨rfl,a,⟨rfl,?_⟩,rfl⟩) fun h=>qB (fun h'=>⟨rfl,a,⟨rfl,?_⟩,rfl⟩) fun h'=>?_,fun x ⟨hxa,hx⟩=>⟨⟨by decide,by decide,?_⟩,fun y ⟨hya,hy0⟩=>?_⟩⟩⟩
      · have q2:fw t=⟨xs,e0⟩:=by rw [←ht];show (⟨ws (val xs),e0⟩:Fw)=_;rw [←hx]
        have q0:∀ b,fw (SmT (tmQ t sq) b 0)=⟨[],0⟩:=fun b=>by show (⟨ws 0,0⟩:Fw)=_;rw [Zk]
        have z:siSt sq (pwQ t sq) (tmQ t sq) (SmT (tmQ t sq) 0) (SmT (tmQ t sq) 1) (0,true,true)=([(1,.sv (.one (invFn sq))),(4,.sv (.one (.ptr 2 0))),(5,.sv (.one (.ptr 3 0))),(6,.sv (.one (.ptr 5 0))),(7,.sv (.one (.ptr 8 0))),(8,iT 0)],
            [(0,0,.words false xs),(0,1,.int .u64 e0),(2,0,.words true []),(2,1,.int .u64 0),(3,0,.words true []),(3,1,.int .u64 0),(5,0,.words true []),(5,1,.int .u64 0),(5,2,.words true []),(5,3,.int .u64 0),(8,0,.words false xs),(8,1,.int .u64 e0)]):=by
          unfold siSt siCells
          show (_,clX 0 0 false (fw t) ++ (_ ++ (clX 5 0 true (fw (SmT (tmQ t sq) 0 0)) ++ (clX 5 2 true (fw (SmT (tmQ t sq) 1 0)) ++ clX 8 0 false (fw t)))))=_
          rw [q0,q0,q2];rfl
        unfold LKeep.at
        rw [z];rfl
      · have h:=(l0 a.1 ha).symm.trans h
        rcases Nat.lt_or_ge a.1 K with k | k
        · exact k
        · rw [show a.1=K by omega,c3] at h;simp at h
      · have:=zX.1 h';omega
      · have h:=(l0 a.1 ha).symm.trans h
        have h':=qR.1 h'
        have hk:a.1=K:=by
          rcases Nat.lt_or_ge a.1 K with k | k
          · have:=c4 a.1 (by omega) k;simp at h;exact absurd h this
          · omega
        obtain ⟨o1,o2,o3⟩:=c6 K (Nat.le_refl _)
        rw [hk,ew,w4 K (Nat.le_refl _),fw0 K (Nat.le_refl _),fw1 K (Nat.le_refl _),ex,ex,qN o2.1,qN o3.1]
        have p0:=o1.1.2.2
        have p1:=o1.2
        exact ⟨⟨by omega,by omega⟩,⟨o2.w,by omega,by omega,rfl⟩,⟨by omega,by omega⟩,⟨o3.w,by omega,by omega,rfl⟩,rfl,.inl rfl⟩
      · obtain ⟨o1,o2,o3⟩:=c6 x.1 (by omega)
        have i0:(0:Int)≤Int.tmod (x.1:Int) 2∧Int.tmod (x.1:Int) 2<((2:Nat):Int):=by rw [tmod2];omega
        rw [fw0 x.1 (by omega),fw1 x.1 (by omega),fwt x.1 (by omega)]
        refine qB (fun h=>⟨i0,⟨o2.w,o1.1.w⟩,qB (fun h'=>⟨i0,rfl,rfl,(x.1,false,x.2.2),⟨hxa,hx⟩,?_⟩) fun h'=>?_⟩) fun h=>⟨i0,⟨o3.w,o1.1.w⟩,qB (fun h'=>?_) fun h'=>⟨i0,rfl,rfl,(x.1,x.2.1,false),⟨hxa,hx⟩,?_⟩⟩
        · have h2:=zX.1 h
          rw [tmod2] at h2
          have e1:SmT (tmQ t sq) 0 (x.1+1)=YY (SmT (tmQ t sq) 0 x.1) (tmQ t sq x.1):=if_pos (by omega)
          have e2:SmT (tmQ t sq) 1 (x.1+1)=SmT (tmQ t sq) 1 x.1:=if_neg (by omega)
          unfold LKeep.at siSt7 siCells
          rw [e1,e2];rfl
        · rw [h] at h';cases h'
        · rw [h] at h';cases h'
        · have h2:=qR.1 h
          rw [tmod2] at h2
          have e1:SmT (tmQ t sq) 1 (x.1+1)=YY (SmT (tmQ t sq) 1 x.1) (tmQ t sq x.1):=if_pos (by omega)
          have e2:SmT (tmQ t sq) 0 (x.1+1)=SmT (tmQ t sq) 0 x.1:=if_neg (by omega)
          unfold LKeep.at siSt7 siCells
          rw [e1,e2];rfl
      · rw [ex,ew,vP y.1 (by omega)]
        refine ⟨⟨by omega,by omega⟩,⟨rfl,c5 y.1 hy0⟩,⟨by omega,by omega⟩,rfl,(y.1+1,y.2.1,y.2.2),hy0,?_,by show K-(y.1+1)<K-a.1;omega⟩
        rfl
    · cases e;exact hp.elim
section
variable {n w:Int} (h:InvOk n w)
include h
theorem invP_le(k:Nat):0≤(Xi n w k).a∧(Xi n w k).a≤2^w.toNat:=by
  have a0:=(Xn h k).a0
  have s:=invP_small h k
  have p:=two_pow_pos k
  have m:=imL (show (1:Int)≤2^k by omega) a0
  exact ⟨a0,by omega⟩
theorem Xx{z:Fx}(a0:0≤z.a)(a1:z.a≤2*2^w.toNat)(e0:0≤z.e)(e1:z.e≤549755813888):z.Ok:=by
  have w0:=h.w0
  have w1:=h.w1
  have:blen z.a≤w.toNat+1+1:=QN (by rw [Int.pow_succ];omega)
  exact ⟨a0,by omega,e0,by omega⟩
theorem invP_ok(k:Nat):(Xi n w k).Ok:=by
  have a:=invP_le h k
  have e:=invP_e h k
  exact Xx h a.1 (by omega) (by omega) (by omega)
theorem invT_ok(k:Nat):(invT n w k).Ok:=by
  have a:=invP_le h k
  have b:=invT_le h k
  have c:=(invT_in h k).a0
  have e:=invT_e h k
  exact Xx h c (by omega) (by omega) (by omega)
theorem invM_ok(b:Nat){k:Nat}(hk:(k:Int)≤w+2):(SmT (invT n w) b k).Ok:=by
  have a:=smI_a h b k
  have p0:=(Xn h k).a0
  have q:=invP_le h 0
  have e:=smI_e h b k
  have w1:=h.w1
  exact Xx h a.1 (by omega) e.1 (by omega)
omit h in
theorem tmQ_fun(n w:Int):tmQ (qE ⟨2^w.toNat,0⟩ n) (n*n)=invT n w:=funext fun k=>tmQ_inv n w k
omit h in
theorem kQ_inv(n w:Int):kQ (qE ⟨2^w.toNat,0⟩ n) (n*n)=invK n w:=by
  unfold kQ invK
  rw [tmQ_fun]
theorem qok_inv:QOk (qE ⟨2^w.toNat,0⟩ n) (n*n):=by
  obtain ⟨k1,k2,k3,k4⟩:=invK_spec h
  have w1:=h.w1
  have n0:=h.n0
  have n1:=h.n1
  have sq:=sq_ge n0
  have sq1:n*n≤10000*10000:=Int.mul_le_mul n1 n1 (by omega) (by omega)
  unfold QOk
  rw [kQ_inv,tmQ_fun]
  refine ⟨k1,by omega,k3,k4,fun k hk=>?_,fun k hk=>⟨⟨invT_ok h k,by rw [invT_e h];omega⟩,invM_ok h 0 (by omega),invM_ok h 1 (by omega)⟩⟩
  rw [pwQ_inv]
  exact ⟨invP_ok h k,by rw [invP_e h];omega,by omega,by omega,by omega,by omega⟩
omit h in
theorem sumQ_inv(n w:Int)(b:Nat):sumQ (qE ⟨2^w.toNat,0⟩ n) (n*n) b=Yc n w b:=by
  unfold sumQ Yc
  rw [kQ_inv,tmQ_fun]
theorem invR_ok{b:Nat}(hb:b≤1):(Yc n w b).Ok:=by
  have r:=invR_bd h
  have q:=invP_le h 0
  have w1:=h.w1
  rcases (show b=0∨b=1 by omega) with rfl | rfl
  · exact Xx h (by omega) (by omega) (by omega) (by omega)
  · exact Xx h (by omega) (by omega) (by omega) (by omega)
end
def sInv(gQ:Fx→Int→Nat→Fx)(pQ:Fx→Int→Fx)(pr:Fx→Int→Prop):List (FuncId×qU):=[(182,seOne),(185,seShort),(205,seAdd),(187,seSub),(125,lOf),(202,lMul),
  (181+effK,wSumI gQ pQ pr)]
theorem cInverse_vc(n times w:Int)(turned:Bool)(gQ:Fx→Int→Nat→Fx)(pQ:Fx→Int→Fx)(pr:Fx→Int→Prop)(Q:Tv→Prop):qH ⟨tys4,sInv gQ pQ pr⟩ (fun _=>none) 0 Tryz.f207 [.one (.int .u64 n),.one (.int .u64 times),.one (.bool turned),.one (.int .i64 w)] Q=(((0:Int)≤w∧w≤16777216)∧((0:Int)≤(fw (Fx.mk ((2:Int)^Int.toNat w) 0)).e∧(fw (Fx.mk ((2:Int)^Int.toNat w) 0)).e≤1099511627776∧(0:Int)<n∧n<18446744073709551616)∧((fw (qE (Fw.f (fw (Fx.mk ((2:Int)^Int.toNat w) 0))) n)).xs=ws (val (fw (qE (Fw.f (fw (Fx.mk ((2:Int)^Int.toNat w) 0))) n)).xs)∧(fw (qE (Fw.f (fw (Fx.mk ((2:Int)^Int.toNat w) 0))) n)).xs=(fw (qE (Fw.f (fw (Fx.mk ((2:Int)^Int.toNat w) 0))) n)).xs∧(fw (qE (Fw.f (fw (Fx.mk ((2:Int)^Int.toNat w) 0))) n)).e=(fw (qE (Fw.f (fw (Fx.mk ((2:Int)^Int.toNat w) 0))) n)).e∧pr (Fx.mk (val (fw (qE (Fw.f (fw (Fx.mk ((2:Int)^Int.toNat w) 0))) n)).xs) (fw (qE (Fw.f (fw (Fx.mk ((2:Int)^Int.toNat w) 0))) n)).e) (IntKind.wrap IntKind.u64 (n*n)))∧(Fw.Ok (fw (gQ (Fx.mk (val (fw (qE (Fw.f (fw (Fx.mk ((2:Int)^Int.toNat w) 0))) n)).xs) (fw (qE (Fw.f (fw (Fx.mk ((2:Int)^Int.toNat w) 0))) n)).e) (IntKind.wrap IntKind.u64 (n*n)) 0))∧Fw.Ok (fw (gQ (Fx.mk (val (fw (qE (Fw.f (fw (Fx.mk ((2:Int)^Int.toNat w) 0))) n)).xs) (fw (qE (Fw.f (fw (Fx.mk ((2:Int)^Int.toNat w) 0))) n)).e) (IntKind.wrap IntKind.u64 (n*n)) 1)))∧br turned ((Fw.Ok (fw (gQ (Fx.mk (val (fw (qE (Fw.f (fw (Fx.mk ((2:Int)^Int.toNat w) 0))) n)).xs) (fw (qE (Fw.f (fw (Fx.mk ((2:Int)^Int.toNat w) 0))) n)).e) (IntKind.wrap IntKind.u64 (n*n)) 0))∧Fw.Ok (fw (gQ (Fx.mk (val (fw (qE (Fw.f (fw (Fx.mk ((2:Int)^Int.toNat w) 0))) n)).xs) (fw (qE (Fw.f (fw (Fx.mk ((2:Int)^Int.toNat w) 0))) n)).e) (IntKind.wrap IntKind.u64 (n*n)) 1))∧(Fw.f (fw (gQ (Fx.mk (val (fw (qE (Fw.f (fw (Fx.mk ((2:Int)^Int.toNat w) 0))) n)).xs) (fw (qE (Fw.f (fw (Fx.mk ((2:Int)^Int.toNat w) 0))) n)).e) (IntKind.wrap IntKind.u64 (n*n)) 1))).a+(Fw.f (fw (gQ (Fx.mk (val (fw (qE (Fw.f (fw (Fx.mk ((2:Int)^Int.toNat w) 0))) n)).xs) (fw (qE (Fw.f (fw (Fx.mk ((2:Int)^Int.toNat w) 0))) n)).e) (IntKind.wrap IntKind.u64 (n*n)) 1))).e≤(Fw.f (fw (gQ (Fx.mk (val (fw (qE (Fw.f (fw (Fx.mk ((2:Int)^Int.toNat w) 0))) n)).xs) (fw (qE (Fw.f (fw (Fx.mk ((2:Int)^Int.toNat w) 0))) n)).e) (IntKind.wrap IntKind.u64 (n*n)) 0))).a)∧zR times∧List.length (ws (val (fw (subF (Fw.f (fw (gQ (Fx.mk (val (fw (qE (Fw.f (fw (Fx.mk ((2:Int)^Int.toNat w) 0))) n)).xs) (fw (qE (Fw.f (fw (Fx.mk ((2:Int)^Int.toNat w) 0))) n)).e) (IntKind.wrap IntKind.u64 (n*n)) 0))) (Fw.f (fw (gQ (Fx.mk (val (fw (qE (Fw.f (fw (Fx.mk ((2:Int)^Int.toNat w) 0))) n)).xs) (fw (qE (Fw.f (fw (Fx.mk ((2:Int)^Int.toNat w) 0))) n)).e) (IntKind.wrap IntKind.u64 (n*n)) 1))))).xs))+List.length (ws (val (ws times)))≤17592186044415∧true=true∧Q (Tv.sv (Sv.agg [At.words true (ws (val (fw (subF (Fw.f (fw (gQ (Fx.mk (val (fw (qE (Fw.f (fw (Fx.mk ((2:Int)^Int.toNat w) 0))) n)).xs) (fw (qE (Fw.f (fw (Fx.mk ((2:Int)^Int.toNat w) 0))) n)).e) (IntKind.wrap IntKind.u64 (n*n)) 0))) (Fw.f (fw (gQ (Fx.mk (val (fw (qE (Fw.f (fw (Fx.mk ((2:Int)^Int.toNat w) 0))) n)).xs) (fw (qE (Fw.f (fw (Fx.mk ((2:Int)^Int.toNat w) 0))) n)).e) (IntKind.wrap IntKind.u64 (n*n)) 1))))).xs*val (ws times))),At.int .u64 (IntKind.wrap IntKind.u64 ((fw (subF (Fw.f (fw (gQ (Fx.mk (val (fw (qE (Fw.f (fw (Fx.mk ((2:Int)^Int.toNat w) 0))) n)).xs) (fw (qE (Fw.f (fw (Fx.mk ((2:Int)^Int.toNat w) 0))) n)).e) (IntKind.wrap IntKind.u64 (n*n)) 0))) (Fw.f (fw (gQ (Fx.mk (val (fw (qE (Fw.f (fw (Fx.mk ((2:Int)^Int.toNat w) 0))) n)).xs) (fw (qE (Fw.f (fw (Fx.mk ((2:Int)^Int.toNat w) 0))) n)).e) (IntKind.wrap IntKind.u64 (n*n)) 1))))).e*times))]))) (zR times∧List.length (ws (val (fw (YY (Fw.f (fw (gQ (Fx.mk (val (fw (qE (Fw.f (fw (Fx.mk ((2:Int)^Int.toNat w) 0))) n)).xs) (fw (qE (Fw.f (fw (Fx.mk ((2:Int)^Int.toNat w) 0))) n)).e) (IntKind.wrap IntKind.u64 (n*n)) 0))) (Fw.f (fw (gQ (Fx.mk (val (fw (qE (Fw.f (fw (Fx.mk ((2:Int)^Int.toNat w) 0))) n)).xs) (fw (qE (Fw.f (fw (Fx.mk ((2:Int)^Int.toNat w) 0))) n)).e) (IntKind.wrap IntKind.u64 (n*n)) 1))))).xs))+List.length (ws (val (ws times)))≤17592186044415∧true=true∧Q (Tv.sv (Sv.agg [At.words true (ws (val (fw (YY (Fw.f (fw (gQ (Fx.mk (val (fw (qE (Fw.f (fw (Fx.mk ((2:Int)^Int.toNat w) 0))) n)).xs) (fw (qE (Fw.f (fw (Fx.mk ((2:Int)^Int.toNat w) 0))) n)).e) (IntKind.wrap IntKind.u64 (n*n)) 0))) (Fw.f (fw (gQ (Fx.mk (val (fw (qE (Fw.f (fw (Fx.mk ((2:Int)^Int.toNat w) 0))) n)).xs) (fw (qE (Fw.f (fw (Fx.mk ((2:Int)^Int.toNat w) 0))) n)).e) (IntKind.wrap IntKind.u64 (n*n)) 1))))).xs*val (ws times))),At.int .u64 (IntKind.wrap IntKind.u64 ((fw (YY (Fw.f (fw (gQ (Fx.mk (val (fw (qE (Fw.f (fw (Fx.mk ((2:Int)^Int.toNat w) 0))) n)).xs) (fw (qE (Fw.f (fw (Fx.mk ((2:Int)^Int.toNat w) 0))) n)).e) (IntKind.wrap IntKind.u64 (n*n)) 0))) (Fw.f (fw (gQ (Fx.mk (val (fw (qE (Fw.f (fw (Fx.mk ((2:Int)^Int.toNat w) 0))) n)).xs) (fw (qE (Fw.f (fw (Fx.mk ((2:Int)^Int.toNat w) 0))) n)).e) (IntKind.wrap IntKind.u64 (n*n)) 1))))).e*times))])))):=by kernel_rfl
theorem sInv_ok:SpecsOk Tryz.prog (sInv sumQ endQ QOk):=⟨seOne_ok,seShort_ok,seAdd_ok,seSub_ok,lOf_ok,lMul_ok,seSumI_ok,trivial⟩
theorem InvOk.gap{n w:Int}(h:InvOk n w):(Yc n w 1).a+(Yc n w 1).e≤(Yc n w 0).a∧0≤(Xq n w true).a∧(Xq n w true).a≤2*2^w.toNat∧(Xq n w true).e≤4*w+16∧0≤(Xq n w true).e∧0≤(Xq n w false).a∧(Xq n w false).a≤3*2^w.toNat∧(Xq n w false).e≤4*w+16∧0≤(Xq n w false).e:=by
  have r:=invR_bd h
  have b:=h.big
  have w0:=h.w0
  have n0:=h.n0
  have q:5*(Xi n w 0).a≤2^w.toNat:=by
    have k:2^w.toNat/n≤2^w.toNat/5:=Y3 (by have:=two_pow_pos w.toNat;omega) (by omega) n0
    show 5*(2^w.toNat/n)≤2^w.toNat
    omega
  have g:(Yc n w 1).a+(Yc n w 1).e≤(Yc n w 0).a:=by omega
  have e1:Xq n w true=subF (Yc n w 0) (Yc n w 1):=if_pos rfl
  have e2:Xq n w false=YY (Yc n w 0) (Yc n w 1):=if_neg (by simp)
  rw [e1,e2]
  show _∧0≤(Yc n w 0).a-((Yc n w 1).a+(Yc n w 1).e)∧(Yc n w 0).a-((Yc n w 1).a+(Yc n w 1).e)≤_∧(Yc n w 0).e+(Yc n w 1).e≤_∧0≤(Yc n w 0).e+(Yc n w 1).e∧0≤(Yc n w 0).a+(Yc n w 1).a∧(Yc n w 0).a+(Yc n w 1).a≤_∧(Yc n w 0).e+(Yc n w 1).e≤_∧0≤(Yc n w 0).e+(Yc n w 1).e
  omega
def cInverse:qU:=qF [.i .u64,.i .u64,.b,.i .i64] fun (n:Int) (times:Int) (turned:Bool) (w:Int)=>(some (InvOk n w∧1≤times∧times≤64),fxT (QH (Xq n w turned) times))
theorem cInverse_ok:SpecOk Tryz.prog 207 cInverse :=
  zA (qO Zy sInv_ok) mixed Tryz.func207 rfl (by decide) (by decide) fun (n:Int) _ (times:Int) _ (turned:Bool) _ (w:Int) _ hp=>⟨fun _=>none,0,by
    obtain ⟨h,t0,t1⟩:InvOk n w∧1≤times∧times≤64:=hp
    have w0:=h.w0
    have w1:=h.w1
    have n0:=h.n0
    have n1:=h.n1
    have sq1:n*n≤10000*10000:=Int.mul_le_mul n1 n1 (by omega) (by omega)
    have sq0:=sq_ge n0
    show qH _ _ _ _ _ (fun t=>t=fxT (QH (Xq n w turned) times)∨fgT t=fxT (QH (Xq n w turned) times))
    refine (cInverse_vc n times w turned sumQ endQ QOk _).mpr ?_
    have p:=two_pow_pos w.toNat
    have x1:(fw (⟨2^w.toNat,0⟩:Fx)).f=⟨2^w.toNat,0⟩:=XD (by show (0:Int)≤2^w.toNat;omega)
    have x2:IntKind.u64.wrap (n*n)=n*n:=ZY ⟨by omega,by omega⟩
    have oP:=invP_ok h 0
    have x3:(⟨val (fw (qE ⟨2^w.toNat,0⟩ n)).xs,(fw (qE ⟨2^w.toNat,0⟩ n)).e⟩:Fx)=qE ⟨2^w.toNat,0⟩ n:=XD (z:=qE ⟨2^w.toNat,0⟩ n) oP.1
    have x4:∀ b,sumQ (qE ⟨2^w.toNat,0⟩ n) (n*n) b=Yc n w b:=fun b=>sumQ_inv n w b
    rw [x1,x2,x3,x4,x4]
    have o0:=invR_ok h (b:=0) (by omega)
    have o1:=invR_ok h (b:=1) (by omega)
    have f0:(fw (Yc n w 0)).f=Yc n w 0:=XD o0.1
    have f1:(fw (Yc n w 1)).f=Yc n w 1:=XD o1.1
    rw [f0,f1]
    have g:=h.gap
    have wt:zR times:=⟨by omega,by omega⟩
    have fin:∀ z:Fx,0≤z.a→z.a≤3*2^w.toNat→0≤z.e→z.e≤4*w+16→List.length (ws (val (fw z).xs))+List.length (ws (val (ws times)))≤17592186044415 ∧
        Tv.sv (Sv.agg [At.words true (ws (val (fw z).xs*val (ws times))),At.int .u64 (IntKind.wrap IntKind.u64 ((fw z).e*times))]) = .sv (.agg (fwL true (fw (QH z times)))):=fun z a0 a1 e0 e1=>by
      have v1:val (fw z).xs=z.a:=qN a0
      have v2:val (ws times)=times:=qN (by omega)
      have m0:=Int.mul_nonneg e0 (show 0≤times by omega)
      have m1:=Int.mul_le_mul e1 t1 (by omega) (by omega)
      have v3:IntKind.u64.wrap ((fw z).e*times)=z.e*times:=ZY ⟨m0,by show z.e*times<_;omega⟩
      have b1:blen z.a≤w.toNat+2+1:=QN (by rw [show w.toNat+2=w.toNat+1+1 by omega,Int.pow_succ,Int.pow_succ];omega)
      have l1:=QR (k:=1073741824) a0 (by omega)
      have l2:=QR (k:=1073741824) (n:=times) (by omega) (by have:=QN (n:=times) (k:=6) (by omega);omega)
      rw [v1,v2,v3]
      exact ⟨by omega,rfl⟩
    refine ⟨⟨by omega,by omega⟩,⟨Int.le_refl _,by show (0:Int)≤_;omega,by omega,by omega⟩,⟨?_,rfl,rfl,qok_inv h⟩,⟨o0.w,o1.w⟩,qB (fun ht=>?_) fun ht=>?_⟩
    · show ws _=ws (val (ws _))
      exact congrArg ws (qN oP.1).symm
    · obtain ⟨l,e⟩:=fin (Xq n w true) g.2.1 (by omega) g.2.2.2.2.1 g.2.2.2.1
      have es:Xq n w true=subF (Yc n w 0) (Yc n w 1):=if_pos rfl
      rw [es] at l e
      refine ⟨⟨o0.w,o1.w,g.1⟩,wt,l,rfl,.inr ?_⟩
      rw [e,ht,es];rfl
    · obtain ⟨l,e⟩:=fin (Xq n w false) g.2.2.2.2.2.1 g.2.2.2.2.2.2.1 g.2.2.2.2.2.2.2.2 g.2.2.2.2.2.2.2.1
      have es:Xq n w false=YY (Yc n w 0) (Yc n w 1):=if_neg (by simp)
      rw [es] at l e
      refine ⟨wt,l,rfl,.inr ?_⟩
      rw [e,ht,es];rfl⟩
def sPi(fI:Int→Int→Bool→Int→Fx)(pr:Int→Int→Int→Prop):List (FuncId×qU):=[(207,qF [.i .u64,.i .u64,.b,.i .i64] fun (n:Int) (times:Int) (turned:Bool) (w:Int)=>(some (pr n times w),fxT (fI n times turned w))),(187,seSub)]
theorem cPi_vc(w:Int)(fI:Int→Int→Bool→Int→Fx)(pr:Int→Int→Int→Prop)(Q:Tv→Prop):qH ⟨tys4,sPi fI pr⟩ (fun _=>none) 0 Tryz.f195 [.one (.int .i64 w)] Q=(pr 5 16 w∧pr 239 4 w∧(Fw.Ok (fw (fI 5 16 true w))∧Fw.Ok (fw (fI 239 4 true w))∧(Fw.f (fw (fI 239 4 true w))).a+(Fw.f (fw (fI 239 4 true w))).e≤(Fw.f (fw (fI 5 16 true w))).a)∧Q (Tv.sv (Sv.agg (fwL false (fw (subF (Fw.f (fw (fI 5 16 true w))) (Fw.f (fw (fI 239 4 true w))))))))):=by kernel_rfl
theorem pi_gap{w:Int}(w0:32≤w)(w1:w≤65536):(QH (Xq 239 w true) 4).a+(QH (Xq 239 w true) 4).e≤(QH (Xq 5 w true) 16).a:=by
  have h5:InvOk 5 w:=⟨by omega,by omega,w0,w1⟩
  have h2:InvOk 239 w:=⟨by omega,by omega,w0,w1⟩
  have r5:=invR_bd h5
  have r2:=invR_bd h2
  have b5:=h5.big
  have b2:=h2.big
  have q5:(Xi 5 w 0).a=2^w.toNat/5:=rfl
  have q2:(Xi 239 w 0).a=2^w.toNat/239:=rfl
  have e5:Xq 5 w true=subF (Yc 5 w 0) (Yc 5 w 1):=if_pos rfl
  have e2:Xq 239 w true=subF (Yc 239 w 0) (Yc 239 w 1):=if_pos rfl
  rw [e5,e2]
  show ((Yc 239 w 0).a-((Yc 239 w 1).a+(Yc 239 w 1).e))*4+((Yc 239 w 0).e+(Yc 239 w 1).e)*4≤((Yc 5 w 0).a-((Yc 5 w 1).a+(Yc 5 w 1).e))*16
  have k:20*(2^w.toNat/239)≤(2^w.toNat/5:Int):=by omega
  omega
theorem timesF_ok{n w t:Int}(h:InvOk n w)(t0:0≤t)(t1:t≤64):(QH (Xq n w true) t).Ok:=by
  have g:=h.gap
  have w0:=h.w0
  have w1:=h.w1
  have p:=two_pow_pos w.toNat
  have a0:=Int.mul_nonneg g.2.1 t0
  have a1:=Int.mul_le_mul g.2.2.1 t1 t0 (by omega)
  have e0:=Int.mul_nonneg g.2.2.2.2.1 t0
  have e1:=Int.mul_le_mul g.2.2.2.1 t1 t0 (by omega)
  have b:blen ((Xq n w true).a*t)≤w.toNat+7+1:=QN (by
    rw [show (2:Int)^(w.toNat+7)=2^w.toNat*128 by rw [Int.pow_add];rfl];omega)
  exact ⟨a0,by show blen ((Xq n w true).a*t)≤_;omega,e0,by show (Xq n w true).e*t≤_;omega⟩
def cPi:qU:=qF [.i .i64] fun (w:Int)=>(some (32≤w∧w≤65536),fxT (piF w))
theorem sPi_ok:SpecsOk Tryz.prog (sPi (fun n times turned w=>QH (Xq n w turned) times) (fun n times w=>InvOk n w∧1≤times∧times≤64)):=⟨cInverse_ok,seSub_ok,trivial⟩
theorem cPi_ok:SpecOk Tryz.prog 195 cPi :=
  zA (qO Zy sPi_ok) mixed Tryz.func195 rfl (by decide) (by decide) fun (w:Int) _ hp=>⟨fun _=>none,0,by
    obtain ⟨w0,w1⟩:32≤w∧w≤65536:=hp
    have h5:InvOk 5 w:=⟨by omega,by omega,w0,w1⟩
    have h2:InvOk 239 w:=⟨by omega,by omega,w0,w1⟩
    have o5:=timesF_ok h5 (t:=16) (by omega) (by omega)
    have o2:=timesF_ok h2 (t:=4) (by omega) (by omega)
    show qH _ _ _ _ _ (fun t=>t=fxT (piF w)∨fgT t=fxT (piF w))
    refine (cPi_vc w (fun n times turned w=>QH (Xq n w turned) times) (fun n times w=>InvOk n w∧1≤times∧times≤64) _).mpr ?_
    have f5:(fw (QH (Xq 5 w true) 16)).f=QH (Xq 5 w true) 16:=XD o5.1
    have f2:(fw (QH (Xq 239 w true) 4)).f=QH (Xq 239 w true) 4:=XD o2.1
    rw [f5,f2]
    exact ⟨⟨h5,by omega,by omega⟩,⟨h2,by omega,by omega⟩,⟨o5.w,o2.w,pi_gap w0 w1⟩,.inl rfl⟩⟩
theorem at5_enc:Enc (sgnS true (atT 5)) (197395/1000000) (1974/10000):=by
  refine (altG_enc (r:=atT 5) (Yv (by omega)) (atT_fall (by omega)) (K:=3) (q:=12/11*atT 5 3) Rat.le_refl Rat.le_refl Rat.le_refl Rat.le_refl (by grind)).wide ?_ ?_<;>decide +kernel
theorem at239_enc:Enc (sgnS true (atT 239)) (4184/1000000) (41842/10000000):=by
  refine (altG_enc (r:=atT 239) (Yv (by omega)) (atT_fall (by omega)) (K:=2) (q:=12/11*atT 239 2) Rat.le_refl Rat.le_refl Rat.le_refl Rat.le_refl (by grind)).wide ?_ ?_<;>decide +kernel
theorem piS_enc:Enc piS (31415/10000) (31417/10000) :=
  ((at5_enc.scale (c:=16) (by decide)).add ((at239_enc.scale (c:=4) (by decide)).neg)).wide (by decide +kernel) (by decide +kernel)
theorem piF_e{w:Int}(w0:32≤w)(w1:w≤65536):0≤(piF w).a∧0≤(piF w).e∧(piF w).e≤80*w+320∧(piF w).a≤32*2^w.toNat:=by
  have h5:InvOk 5 w:=⟨by omega,by omega,w0,w1⟩
  have h2:InvOk 239 w:=⟨by omega,by omega,w0,w1⟩
  have g5:=h5.gap
  have g2:=h2.gap
  have gp:=pi_gap w0 w1
  have e2:(piF w).e=(Xq 5 w true).e*16+(Xq 239 w true).e*4:=rfl
  have e1:(piF w).a=(Xq 5 w true).a*16-((Xq 239 w true).a*4+(Xq 239 w true).e*4):=rfl
  have e3:(QH (Xq 239 w true) 4).a+(QH (Xq 239 w true) 4).e=(Xq 239 w true).a*4+(Xq 239 w true).e*4:=rfl
  have e4:(QH (Xq 5 w true) 16).a=(Xq 5 w true).a*16:=rfl
  omega
theorem refS_bd{n w:Int}(h:InvOk n w):0≤(refS n w).a∧(refS n w).a≤2*(ZU n w 0).a∧0≤(refS n w).e∧(refS n w).e≤4*w+16∧(refS n w).a+(refS n w).e≤2*(ZU n w 0).a+4*w+16∧(ZU n w 0).a-4*w-16≤(refS n w).a+2*(ZU n w 1).a:=by
  obtain ⟨k2,k3,k4⟩:=refK_spec h
  have a0:=smR_a h 0 (refK n w+1)
  have a1:=smR_a h 1 (refK n w+1)
  have p0:=(YL h (refK n w+1)).a0
  have e0:=smR_e h 0 (refK n w+1)
  have e1:=smR_e h 1 (refK n w+1)
  have ev:=smR_even h (refK n w)
  have od:=smR_odd h (refK n w)
  have hf:25*(ZU n w 1).a≤(ZU n w 0).a:=refP_half h 0
  have b1:=(YL h 1).a0
  have big:=h.big
  have w0:=h.w0
  have ep:(Xi n w 0).a=(ZU n w 0).a:=rfl
  have d1:(refS n w).a=(SmT (Yx n w) 0 (refK n w+1)).a-((SmT (Yx n w) 1 (refK n w+1)).a+((SmT (Yx n w) 1 (refK n w+1)).e+4)):=rfl
  have d2:(refS n w).e=((SmT (Yx n w) 0 (refK n w+1)).e+4)+((SmT (Yx n w) 1 (refK n w+1)).e+4):=rfl
  omega
theorem piR_e{w:Int}(w0:32≤w)(w1:w≤65536):0≤(piR w).a∧0≤(piR w).e∧(piR w).e≤80*w+320∧(piR w).a≤32*2^w.toNat:=by
  have h5:InvOk 5 w:=⟨by omega,by omega,w0,w1⟩
  have h2:InvOk 239 w:=⟨by omega,by omega,w0,w1⟩
  have g5:=refS_bd h5
  have g2:=refS_bd h2
  have big5:=h5.big
  have hf5:25*(ZU 5 w 1).a≤(ZU 5 w 0).a:=refP_half h5 0
  have q5:(ZU 5 w 0).a=2^w.toNat/5:=rfl
  have q2:(ZU 239 w 0).a=2^w.toNat/239:=rfl
  have ep:(Xi 5 w 0).a=(ZU 5 w 0).a:=rfl
  have k:20*(2^w.toNat/239)≤(2^w.toNat/5:Int):=by omega
  have e2:(piR w).e=(refS 5 w).e*16+(refS 239 w).e*4:=rfl
  have e1:(piR w).a=(refS 5 w).a*16-((refS 239 w).a*4+(refS 239 w).e*4):=rfl
  omega
structure PiIv (d:Rat) (v:Vx):Prop where
  f:OneF v.lo∧OneF v.hi
  enc:Enc piS v.lo.rv v.hi.rv
  lo:3≤v.lo.rv
  hi:v.hi.rv≤4
  nar:v.hi.rv≤v.lo.rv+d
theorem PiIv.p{d:Rat}{v:Vx}(h:PiIv d v):v.P:=⟨h.f.1.p,h.f.2.p⟩
theorem PiIv.le{d:Rat}{v:Vx}(h:PiIv d v):v.lo.rv≤v.hi.rv:=h.enc.self
theorem ivF_rv{z:Fx}{w:Int}(a0:0≤z.a)(e0:0≤z.e):(ivF z w).lo.rv=(z.a:Rat)*p2 (-w)∧(ivF z w).hi.rv=((z.a+z.e:Int):Rat)*p2 (-w):=by
  unfold ivF
  exact ⟨by rw [Y9 a0];rfl,by rw [Y9 (by omega)];rfl⟩
theorem pow_e{w:Int}(w0:32≤w)(w1:w≤65536){e:Int}(h:e≤80*w+320):(e:Rat)*p2 (-w)≤p2 (23-w):=by
  have:(e:Rat)≤((2^23:Int):Rat):=zG.2 (by omega)
  have h2:=rmR this (rlL (qL (-w)))
  have e23:((2^23:Int):Rat)=p2 23:=(zU (n:=23) (by omega)).symm
  rw [e23,←Qb] at h2
  rwa [show (23:Int)-w=23 + -w by omega]
theorem pi_iv{w:Int}{z:Fx}(w0:32≤w)(w1:w≤65536)(h:EncF w z piS)(a0:0≤z.a)(e0:0≤z.e)(e1:z.e≤80*w+320):PiIv (p2 (23-w)) (ivF z w):=by
  obtain ⟨r1,r2⟩:=ivF_rv (w:=w) a0 e0
  have hp:=Qz (show 23-w≤-9 by omega)
  have hn:=pow_e w0 w1 e1
  have hm:=h.meets piS_enc
  have hm2:=piS_enc.meets h
  have e9:p2 (-9)=1/512:=by decide +kernel
  have es:((z.a+z.e:Int):Rat)*p2 (-w)=(z.a:Rat)*p2 (-w)+(z.e:Rat)*p2 (-w):=by rw [rcA,Rat.add_mul]
  rw [es] at hm2 r2
  rw [e9] at hp
  have d1:(31415:Rat)/10000-1/512≥3:=by decide +kernel
  have d2:(31417:Rat)/10000+1/512≤4:=by decide +kernel
  refine ⟨⟨mkD_f a0,mkD_f (by omega)⟩,?_,?_,?_,?_⟩
  · rw [r1,r2,←es];exact h
  all_goals
    generalize (31415:Rat)/10000=c1 at *
    generalize (31417:Rat)/10000=c2 at *
    generalize (z.a:Rat)*p2 (-w)=A at *
    generalize (z.e:Rat)*p2 (-w)=B at *
    generalize p2 (23-w)=P at *
  · rw [r1];grind
  · rw [r2];grind
  · rw [r1,r2];grind
theorem PiIv.trim{d:Rat}{v:Vx}{p:Int}(h:PiIv d v)(hp2:2≤p):PiIv (d+p2 (4-p)) (qV v p):=by
  have hp:1≤p:=by omega
  have b1:=(Xa (d:=v.lo) (p:=p) h.p.1 hp).1
  have b2:=(Xa (d:=v.hi) (p:=p) h.p.2 hp).2
  have l1:=h.lo
  have l2:=h.hi
  have l3:=h.nar
  have le:=h.le
  have hr1:Rp p ((4:Int):Rat):=⟨1,2,by decide +kernel,by
    have:=Qz (show (1:Int)≤p by omega)
    rw [p2_one] at this
    have e1:((1:Int):Rat)=1:=rfl
    rw [e1];grind,by
    have:=qL p
    have e1:((1:Int):Rat)=1:=rfl
    rw [e1];grind⟩
  have e4:((4:Int):Rat)=4:=rfl
  rw [e4] at hr1
  have r1:=b1.rel hp (by grind)
  have r2:=b2.rel hp (by grind)
  have ee:eps p=p2 (1-p):=rfl
  have e8:p2 (4-p)=8*p2 (1-p):=by
    rw [show (4:Int)-p=3+(1-p) by omega,Qb]
    have:p2 3=8:=by decide +kernel
    rw [this]
  have ep:=Yf p
  rw [ee] at r1 r2 ep
  have m1:p2 (1-p)*v.lo.rv≤p2 (1-p)*4:=rmL (by grind) (rlL ep)
  have m2:p2 (1-p)*v.hi.rv≤p2 (1-p)*4:=rmL (by grind) (rlL ep)
  refine ⟨⟨YI h.p.1,YI h.p.2⟩,h.enc.wide b1.2.1 b2.2.1,?_,b2.2.2 4 hr1 l2,?_⟩
  · refine b1.2.2 3 ⟨3,0,by rw [ZX];decide +kernel,?_,?_⟩ l1
    · have:=Qz hp2
      have e2:p2 2=4:=by decide +kernel
      have e3:((3:Int):Rat)=3:=rfl
      rw [e3];grind
    · have:=qL p
      have e3:((3:Int):Rat)=3:=rfl
      rw [e3];grind
  · show (cutD v.hi p true).rv≤(cutD v.lo p false).rv+(d+p2 (4-p))
    rw [e8];grind
theorem PiIv.mono{d d':Rat}{v:Vx}(h:PiIv d v)(k:d≤d'):PiIv d' v:=⟨h.f,h.enc,h.lo,h.hi,by have:=h.nar;grind⟩
theorem fits_34{d:Dx}{p:Int}(h:OneF d)(hr:Rp p d.rv)(h3:3≤d.rv)(h4:d.rv≤4)(hp:p≤32768):d.fitsB=true:=by
  have e:=(QX h.p).1 (by grind)
  have e1:p2 1=2:=p2_one
  have e2:p2 2=4:=by decide +kernel
  exact fits_rp h (A:=1) (B:=2) hr hp (fun _=>by rw [←e];grind) (by rw [←e];grind) (by omega) (by omega)
theorem PiIv.right{d:Rat}{v:Vx}(h:PiIv d v){p:Int}(r1:Rp p v.lo.rv)(r2:Rp p v.hi.rv)(hp:p≤32768):qT v=true:=by
  have le:=h.le
  have f1:=fits_34 h.f.1 r1 h.lo (by have:=h.hi;grind) hp
  have f2:=fits_34 h.f.2 r2 (by have:=h.lo;grind) h.hi hp
  unfold qT
  rw [f1,f2,decide_eq_true (cmpD_le.2 le)];rfl
def encPi(p:Int):Vx:=ivF (piF (p+64)) (p+64)
theorem encPi_iv{p:Int}(p0:8≤p)(p1:p≤65000):PiIv (p2 (-41-p)) (encPi p):=by
  obtain ⟨a0,e0,e1,_⟩:=piF_e (w:=p+64) (by omega) (by omega)
  have:=pi_iv (w:=p+64) (by omega) (by omega) (piF_enc (by omega) (by omega)) a0 e0 e1
  rwa [show (23:Int)-(p+64) = -41-p by omega] at this
theorem ivF_rp{z:Fx}{w p:Int}(a0:0≤z.a)(e0:0≤z.e)(h:(z.a+z.e:Int)<2^p.toNat)(hp:0≤p):Rp p (ivF z w).lo.rv∧Rp p (ivF z w).hi.rv:=by
  obtain ⟨r1,r2⟩:=ivF_rv (w:=w) a0 e0
  have q:=qL p
  have c:∀ s:Int,0≤s→s<2^p.toNat→(s:Rat)<p2 p∧-(p2 p)<(s:Rat):=fun s s0 s1=>by
    have k0:=zG.2 s0
    have e0:((0:Int):Rat)=0:=rfl
    rw [e0] at k0
    rw [zU hp]
    have q':0<((2^p.toNat:Int):Rat):=by rw [←zU hp];exact q
    exact ⟨QA.2 s1,by grind⟩
  exact ⟨⟨_,_,r1,c _ a0 (by omega)⟩,⟨_,_,r2,c _ (by omega) h⟩⟩
theorem encPi_right{p:Int}(p0:8≤p)(p1:p≤16384):qT (encPi p)=true:=by
  obtain ⟨a0,e0,e1,a1⟩:=piF_e (w:=p+64) (by omega) (by omega)
  have hb:(piF (p+64)).a+(piF (p+64)).e<2^(p+64+6).toNat:=by
    obtain ⟨k,hk⟩:∃ k:Nat,p+64=k+32:=⟨(p+32).toNat,by omega⟩
    have pb:=pow_big k
    rw [show (p+64).toNat=k+32 by omega] at a1
    rw [show (p+64+6).toNat=k+32+6 by omega,Int.pow_add]
    have:(2:Int)^6=64:=by decide
    rw [this];omega
  obtain ⟨r1,r2⟩:=ivF_rp (w:=p+64) a0 e0 hb (by omega)
  exact (encPi_iv p0 (by omega)).right r1 r2 (by omega)
def YM(p:Int):Vx:=qV (encPi p) (p+8)
theorem constPi_iv{p:Int}(p0:8≤p)(p1:p≤65000):PiIv (p2 (-3-p)) (YM p):=by
  refine ((encPi_iv p0 p1).trim (p:=p+8) (by omega)).mono ?_
  have h1:=Qz (show -41-p≤-4-p by omega)
  have h2:p2 (-3-p)=2*p2 (-4-p):=by
    rw [show -3-p=1+(-4-p) by omega,Qb,p2_one]
  rw [show (4:Int)-(p+8) = -4-p by omega,h2];grind
theorem constPi_fits{p:Int}(p0:8≤p)(p1:p≤16384):(YM p).lo.fitsB=true∧(YM p).hi.fitsB=true:=by
  have h:=constPi_iv p0 (by omega)
  have k:=encPi_iv p0 (show p≤65000 by omega)
  have r1:=(Xa (d:=(encPi p).lo) (p:=p+8) k.p.1 (by omega)).1.1
  have r2:=(Xa (d:=(encPi p).hi) (p:=p+8) k.p.2 (by omega)).2.1
  have le:=h.le
  exact ⟨fits_34 h.f.1 r1 h.lo (by have:=h.hi;grind) (by omega),fits_34 h.f.2 r2 (by have:=h.lo;grind) h.hi (by omega)⟩
theorem constPi_right{p:Int}(p0:8≤p)(p1:p≤16384):qT (YM p)=true:=by
  have h:=constPi_iv p0 (show p≤65000 by omega)
  obtain ⟨f1,f2⟩:=constPi_fits p0 p1
  unfold qT
  rw [f1,f2,decide_eq_true (cmpD_le.2 h.le)];rfl
theorem constPi_cut{p:Int}(p0:8≤p)(p1:p+8≤8192):ivCut (encPi p) (p+8)=(YM p,0):=by
  have h1:leI 1 (p+8)=true:=decide_eq_true (by omega)
  have h2:leI (p+8) 8192=true:=decide_eq_true p1
  obtain ⟨f1,f2⟩:=constPi_fits p0 (show p≤16384 by omega)
  unfold ivCut whenR roomR
  rw [h1,h2,encPi_right p0 (by omega)]
  show (if (true && true && true)=true then if ((YM p).lo.fitsB && (YM p).hi.fitsB)=true then (YM p,0) else (zeroIv,3) else (zeroIv,2))=_
  rw [f1,f2];rfl
def YZ(w:Int):Vx:=ivF (piR w) w
theorem refPi_iv{w:Int}(w0:32≤w)(w1:w≤65536):PiIv (p2 (23-w)) (YZ w):=by
  obtain ⟨a0,e0,e1,_⟩:=piR_e w0 w1
  exact pi_iv w0 w1 (piR_enc w0 w1) a0 e0 e1
def tyKn:TyRow:=⟨159,2,true,[.lit .nilFunc,.bool false],.struct [(0,1,false),(1,1,false)]⟩
def tyKn8:TyRow:=⟨160,16,true,[.lit .nilFunc,.bool false,.lit .nilFunc,.bool false,.lit .nilFunc,.bool false,.lit .nilFunc,.bool false,.lit .nilFunc,.bool false,.lit .nilFunc,.bool false,.lit .nilFunc,.bool false,.lit .nilFunc,.bool false],.array 8 2 true⟩
def tyFn:TyRow:=⟨157,1,false,[.lit .nilFunc],.func⟩
def tys5:List TyRow:=tyKn8 :: tyKn :: tyFn :: tys4
theorem tys5_ok:RowsOk Tryz.prog tys5:=⟨by kernel_rfl,by kernel_rfl,by kernel_rfl,Zy⟩
def tabL:List At:=[.lit .nilFunc,.bool false,.fn 195 [],.bool false,.fn 196 [],.bool false,.fn 197 [],.bool false,.fn 198 [],.bool false,.fn 195 [],.bool true,.fn 196 [],.bool true,.fn 197 [],.bool true]
def cTable:qU:=qF [] (none,.sv (.agg tabL))
theorem cTable_vc  (Q:Tv→Prop):qH ⟨tys5,[]⟩ (fun _=>none) 0 Tryz.f169 [] Q=(Q (Tv.sv (Sv.agg [At.lit Value.nilFunc,At.bool false,At.fn 195 [],At.bool false,At.fn 196 [],At.bool false,At.fn 197 [],At.bool false,At.fn 198 [],At.bool false,At.fn 195 [],At.bool true,At.fn 196 [],At.bool true,At.fn 197 [],At.bool true]))):=by kernel_rfl
theorem cTable_ok:SpecOk Tryz.prog 169 cTable :=
  qG (qO (S:=[]) tys5_ok trivial) mixed Tryz.func169 rfl (by decide) (by decide) fun _=>⟨fun _=>none,0,by
    show qH _ _ _ _ _ (fun t=>t = .sv (.agg tabL))
    exact (cTable_vc _).mpr rfl⟩
def sEc(tb:List At)(pr:Int→Prop)(fP:Int→Fx)(rf:Fx→Int→Vx):List (FuncId×qU):=[(169,qF [] (none,.sv (.agg tb))),(195,qF [.i .i64] fun (w:Int)=>(some (pr w),fxT (fP w))),(170,qF [.fx,.i .i64] fun (x:Fw) (q:Int)=>(some (x.Ok∧0≤q∧q≤16777216),vT (rf x.f q)))]
theorem sEc_ok:SpecsOk Tryz.prog (sEc tabL (fun w=>32≤w∧w≤65536) piF ivF):=⟨cTable_ok,cPi_ok,seIval_ok,trivial⟩
theorem cEnc_vc(p:Int)(pr:Int→Prop)(fP:Int→Fx)(rf:Fx→Int→Vx)(Q:Tv→Prop):qH ⟨tys5,sEc tabL pr fP rf⟩ (fun _=>none) 0 Tryz.f137 [.one (.int .u8 1),.one (.int .i64 p)] Q=(inR (p+64)∧((0:Int)≤1∧(1:Int)<(↑(8:Nat):Int))∧pr (p+64)∧(Fw.Ok (fw (fP (p+64)))∧(0:Int)≤p+64∧p+64≤16777216)∧Q (Tv.sv (Sv.agg (ivL true (rf (Fw.f (fw (fP (p+64)))) (p+64)))))):=by kernel_rfl
theorem piF_ok{w:Int}(w0:32≤w)(w1:w≤65536):(piF w).Ok:=by
  obtain ⟨a0,e0,e1,a1⟩:=piF_e w0 w1
  have b:blen (piF w).a≤w.toNat+5+1:=QN (by
    rw [show (2:Int)^(w.toNat+5)=2^w.toNat*32 by rw [Int.pow_add];rfl];omega)
  exact ⟨a0,by omega,e0,by omega⟩
def cEnc:qU:=qF [.i .u8,.i .i64] fun (k:Int) (p:Int)=>(some (k=1∧8≤p∧p≤65000),vT (encPi p))
theorem cEnc_ok:SpecOk Tryz.prog 137 cEnc :=
  qG (qO tys5_ok sEc_ok) mixed Tryz.func137 rfl (by decide) (by decide) fun (k:Int) _ (p:Int) _ hp=>⟨fun _=>none,0,by
    obtain ⟨rfl,p0,p1⟩:k=1∧8≤p∧p≤65000:=hp
    show qH _ _ _ _ _ (fun t=>t=vT (encPi p))
    have o:=piF_ok (w:=p+64) (by omega) (by omega)
    refine (cEnc_vc p (fun w=>32≤w∧w≤65536) piF ivF _).mpr ⟨⟨by omega,by omega⟩,⟨by omega,by omega⟩,⟨by omega,by omega⟩,⟨o.w,by omega,by omega⟩,?_⟩
    rw [XD o.1];rfl⟩
def sCo(pr:Int→Prop)(en:Int→Vx)(cu:Vx→Int→Vx×Int):List (FuncId×qU):=[(137,qF [.i .u8,.i .i64] fun (k:Int) (p:Int)=>(some (k=1∧pr p),vT (en p))),(47,rTrim),(138,qF [.v,.i .i64] fun (v:Vx) (p:Int)=>(none,reT (cu v p)))]
theorem cIs_vc(k:Int)(Q:Tv→Prop):qH ⟨tys5,[]⟩ (fun _=>none) 0 Tryz.f136 [.one (.int .u8 k)] Q=(br (ltI 0 k) (Q (bT (ltI k 8))) (Q (bT false))):=by kernel_rfl
def cIs:qU:=qF [.i .u8] fun (k:Int)=>(none,bT (ltI 0 k && ltI k 8))
theorem cIs_ok:SpecOk Tryz.prog 136 cIs :=
  qG (qO (S:=[]) tys5_ok trivial) mixed Tryz.func136 rfl (by decide) (by decide) fun (k:Int) _ _=>⟨fun _=>none,0,by
    show qH _ _ _ _ _ (fun t=>t=bT (ltI 0 k && ltI k 8))
    refine (cIs_vc k _).mpr (qB (fun h=>?_) fun h=>?_)
    · rw [h];rfl
    · rw [h];rfl⟩
theorem cConst_vc(p:Int)(pr:Int→Prop)(en:Int→Vx)(cu:Vx→Int→Vx×Int)(Q:Tv→Prop):qH ⟨tys5,(136,cIs) :: sCo pr en cu⟩ (fun _=>none) 0 Tryz.f108 [.one (.int .u8 1),.one (.int .i64 p)] Q=(br (ltI p 8) (Q (Tv.tup [Sv.agg [At.bool false,At.words true [],At.int .i64 0,At.bool false,At.words true [],At.int .i64 0],Sv.one (At.int .i64 2)])) (br (ltI 8192 p) (Q (Tv.tup [Sv.agg [At.bool false,At.words true [],At.int .i64 0,At.bool false,At.words true [],At.int .i64 0],Sv.one (At.int .i64 2)])) (((1:Int)=(1:Int)∧pr p)∧inR (p+8)∧br (ltI 8192 (p+8)) (inR (p+8)∧(Vx.Sm 34359738368 (en p)∧(0:Int)≤p+8∧p+8≤1099511627776)∧Q (Tv.tup [Sv.agg (ivL true (qV (en p) (p+8))),Sv.one (At.int .i64 0)])) (inR (p+8)∧Q (Tv.tup [Sv.agg (ivL false (cu (en p) (p+8)).fst),Sv.one (At.int .i64 (cu (en p) (p+8)).snd)]))))):=by kernel_rfl
def constR(p:Int):Vx×Int:=if 8≤p∧p≤8192 then (YM p,0) else (zeroIv,2)
def cConst:qU:=qF [.i .u8,.i .i64] fun (k:Int) (p:Int)=>(some (k=1),reT (constR p))
theorem sCo_ok:SpecsOk Tryz.prog ((136,cIs) :: sCo (fun p=>8≤p∧p≤65000) encPi ivCut):=⟨cIs_ok,cEnc_ok,rTrim_ok,vXCut_ok,trivial⟩
theorem cConst_ok:SpecOk Tryz.prog 108 cConst :=
  zA (qO tys5_ok sCo_ok) mixed Tryz.func108 rfl (by decide) (by decide) fun (k:Int) _ (p:Int) _ hp=>⟨fun _=>none,0,by
    obtain rfl:k=1:=hp
    show qH _ _ _ _ _ (fun t=>t=reT (constR p)∨fgT t=reT (constR p))
    refine (cConst_vc p (fun p=>8≤p∧p≤65000) encPi ivCut _).mpr (qB (fun h1=>.inr ?_) fun h1=>qB (fun h2=>.inr ?_) fun h2=>?_)
    · rw [constR,if_neg (by have:=qW.1 h1;omega)];rfl
    · rw [constR,if_neg (by have:=qW.1 h2;omega)];rfl
    · have h1:=qJ.1 h1
      have h2:=qJ.1 h2
      refine ⟨⟨rfl,by omega,by omega⟩,⟨by omega,by omega⟩,qB (fun h3=>⟨⟨by omega,by omega⟩,⟨(QZ (encPi_right (p:=p) (by omega) (by omega))).mono (by omega),by omega,by omega⟩,.inr ?_⟩) fun h3=>⟨⟨by omega,by omega⟩,.inl ?_⟩⟩
      · rw [constR,if_pos ⟨by omega,by omega⟩];rfl
      · rw [constR,if_pos ⟨by omega,by omega⟩,constPi_cut (by omega) (by have:=qJ.1 h3;omega)];rfl⟩
structure HfIv (d:Rat) (h:Vx):Prop where
  p:h.P
  enc:Enc piS (2*h.lo.rv) (2*h.hi.rv)
  lo:3/2≤h.lo.rv
  hi:h.hi.rv≤2
  nar:h.hi.rv≤h.lo.rv+d
theorem HfIv.le{d:Rat}{h:Vx}(k:HfIv d h):h.lo.rv≤h.hi.rv:=by have:=k.enc.self;grind
theorem HfIv.off{d:Rat}{h:Vx}(k:HfIv d h):Off0 h:=.inl (by have:=k.lo;grind)
theorem p2_m1:p2 (-1)=1/2:=by decide +kernel
theorem PiIv.half{d:Rat}{v:Vx}(h:PiIv d v):HfIv (d/2) (zE v (-1)):=by
  have r1:(zE v (-1)).lo.rv=v.lo.rv*(1/2):=by rw [←p2_m1];exact Z7 h.p.1
  have r2:(zE v (-1)).hi.rv=v.hi.rv*(1/2):=by rw [←p2_m1];exact Z7 h.p.2
  have l:=h.lo
  have k:=h.hi
  have n:=h.nar
  have e1:2*(zE v (-1)).lo.rv=v.lo.rv:=by rw [r1];grind
  have e2:2*(zE v (-1)).hi.rv=v.hi.rv:=by rw [r2];grind
  exact ⟨⟨shiftD_p,shiftD_p⟩,by rw [e1,e2];exact h.enc,by grind,by grind,by grind⟩
theorem HfIv.common{d d':Rat}{u v:Vx}(h:HfIv d u)(k:HfIv d' v):∃ c:Rat,InV u c∧InV v c∧3/2≤c∧c≤2:=by
  have m1:=h.enc.meets k.enc
  have m2:=k.enc.meets h.enc
  have l1:=h.le
  have l2:=k.le
  have a1:=h.lo
  have a2:=k.lo
  have b1:=h.hi
  have b2:=k.hi
  rcases (show u.lo.rv≤v.lo.rv∨v.lo.rv≤u.lo.rv by grind) with c | c
  · exact ⟨v.lo.rv,⟨c,by grind⟩,⟨by grind,l2⟩,a2,by grind⟩
  · exact ⟨u.lo.rv,⟨by grind,l1⟩,⟨c,by grind⟩,a1,by grind⟩
def quoW(h:Vx)(x:Dx)(w:Int):Vx:=Zx (qD x) h w
def nW(h:Vx)(x:Dx)(w:Int):Dx:=Qy (quoW h x w).lo
def zY(h:Vx)(x:Dx)(w:Int):Vx:=lessV (qD x) (qK (qD (nW h x w)) h (w+64)) w
def sureW(h:Vx)(x:Dx)(w:Int):Bool:=eqI (QJ (nW h x w) (Qy (quoW h x w).hi)) 0
def nI(h:Vx)(x:Dx)(w:Int):Int:=YJ (nW h x w)
def tryW(h:Vx)(x:Dx)(p w:Int):Int×Vx×Bool:=if sureW h x w=true then (by4I (nW h x w),zY h x w,Q7 (zY h x w) p) else (0,zeroIv,false)
theorem pointV_in{x:Dx}(hx:0≤x.m):InV (qD x) x.rv:=⟨by show (qC x).rv≤_;rw [Qs hx];exact Rat.le_refl,by show _≤(qC x).rv;rw [Qs hx];exact Rat.le_refl⟩
theorem Xf{x:Dx}(hx:0≤x.m):(qD x).lo.rv=x.rv∧(qD x).hi.rv=x.rv:=⟨Qs hx,Qs hx⟩
section
variable {d:Rat} {h:Vx} (k:HfIv d h) {x:Dx} (hx:0≤x.m) {w:Int} (hw:1≤w)
include k hx hw
theorem quoW_in{c:Rat}(hc:InV h c):InV (quoW h x w) (x.rv*c⁻¹):=div_in (zJ x) k.p k.off hw (pointV_in hx) hc
omit k hx hw in
theorem nW_near:NearI (nI h x w) (quoW h x w).lo.rv:=nearD_whole (divV_p _ _ _).1
theorem sure_near(hs:sureW h x w=true){c:Rat}(hc:InV h c):NearI (nI h x w) (x.rv*c⁻¹):=by
  have n1:=nW_near (h:=h) (x:=x) (w:=w)
  have n2:=nearD_whole (d:=(quoW h x w).hi) (divV_p _ _ _).2
  have e:YJ (nW h x w)=YJ (Qy (quoW h x w).hi):=nearD_eq.1 (cmpD_eq0.1 (zX.1 hs))
  have e':nI h x w=YJ (Qy (quoW h x w).hi):=e
  rw [←e'] at n2
  obtain ⟨a,b⟩:=quoW_in k hx hw hc
  obtain ⟨a1,a2,a3⟩:=n1
  obtain ⟨b1,b2,b3⟩:=n2
  refine ⟨by grind,by grind,fun h=>?_⟩
  rcases h with h | h
  · exact a3 (.inl (by grind))
  · exact b3 (.inr (by grind))
theorem rest_in{c:Rat}(hc:InV h c):InV (zY h x w) (x.rv-(nI h x w:Rat)*c):=by
  have en:(nW h x w).rv=(nI h x w:Rat):=(YK Yg).symm
  have np:0≤(nW h x w).m:=nearD_p
  obtain ⟨a1,a2⟩:=prod_in (zJ (nW h x w)) k.p (pointV_in np) hc
  rw [en] at a1 a2
  obtain ⟨t1,t2⟩:=times_best (v:=qD (nW h x w)) (u:=h) (p:=w+64) (by omega) (zJ _) k.p
  have t1':=t1.2.1
  have t2':=t2.2.1
  obtain ⟨l1,l2⟩:=less_best (v:=qD x) (u:=qK (qD (nW h x w)) h (w+64)) (zJ x) (Q9 _ _) hw
  obtain ⟨p1,p2⟩:=Xf hx
  have l1':=l1.2.1
  have l2':=l2.2.1
  constructor
  · show (zY h x w).lo.rv≤_
    have:(zY h x w).lo.rv≤(qD x).lo.rv-(qK (qD (nW h x w)) h (w+64)).hi.rv:=l1'
    grind
  · show _≤(zY h x w).hi.rv
    have:(qD x).hi.rv-(qK (qD (nW h x w)) h (w+64)).lo.rv≤(zY h x w).hi.rv:=l2'
    grind
end
theorem by4_mod{h:Vx}{x:Dx}{w:Int}:by4I (nW h x w)=nI h x w % 4:=rfl
theorem rp_p2{p:Int}(k:Int)(hp:1≤p):Rp p (p2 k)∧Rp p (-(p2 k)):=by
  have e1:((1:Int):Rat)=1:=rfl
  have a:=Qz hp
  have b:=qL p
  rw [p2_one] at a
  have h:Rp p (p2 k):=⟨1,k,by rw [e1,Rat.one_mul],by rw [e1];grind,by rw [e1];grind⟩
  exact ⟨h,h.neg⟩
theorem inv_le1{c:Rat}(h:3/2≤c):0<c⁻¹∧c⁻¹≤2/3:=by
  have hc:0<c:=by grind
  have p:=Rat.inv_pos.2 hc
  have e:=Rat.inv_mul_cancel c (by grind)
  have m:=rmL h (rlL p)
  exact ⟨p,by grind⟩
theorem quoW_bd{d:Rat}{h:Vx}(k:HfIv d h){x:Dx}(hx:0≤x.m){w:Int}(hw:1≤w){K:Int}(h1:x.rv<p2 K)(h2:-(p2 K)<x.rv) :
    -(p2 K)≤(quoW h x w).lo.rv∧(quoW h x w).lo.rv≤p2 K∧-(p2 K)≤(quoW h x w).hi.rv∧(quoW h x w).hi.rv≤p2 K:=by
  obtain ⟨⟨a,b,hc,e1⟩,⟨a',b',hc',e2⟩⟩:=div_at (qD x) h w
  obtain ⟨p1,p2'⟩:=Xf hx
  have ra:∀ {a b:Dx},Cor (qD x) h a b→a.rv=x.rv∧3/2≤b.rv:=fun {a b} hc=>by
    have l:=k.lo
    have le:=k.le
    rcases hc.1 with e | e<;>rcases hc.2 with e' | e'<;>rw [e,e']<;>exact ⟨by first | exact p1 | exact p2',by grind⟩
  have bd:∀ {a b:Dx},Cor (qD x) h a b→-(p2 K)≤a.rv*b.rv⁻¹∧a.rv*b.rv⁻¹≤p2 K:=fun {a b} hc=>by
    obtain ⟨r1,r2⟩:=ra hc
    obtain ⟨i0,i1⟩:=inv_le1 r2
    rw [r1]
    have q:=qL K
    rcases (show 0≤x.rv∨x.rv≤0 by grind) with s | s
    · have m1:=rmL (show b.rv⁻¹≤1 by grind) s
      have m0:=rmN s (rlL i0)
      constructor<;>grind
    · have m1:=rmL (show b.rv⁻¹≤1 by grind) (show 0≤-x.rv by grind)
      have m0:=rmN (show 0≤-x.rv by grind) (rlL i0)
      constructor<;>grind
  obtain ⟨rp1,rp2⟩:=rp_p2 (p:=w) K hw
  have c1:=(hc.best (zJ x) k.p k.off k.le hw).2.1
  have c2:=(hc'.best (zJ x) k.p k.off k.le hw).2.2
  have b1:=bd hc
  have b2:=bd hc'
  have l1:=c1.2.2 _ rp2 b1.1
  have l2:=c2.2.2 _ rp1 b2.2
  have u1:=c1.2.1
  have u2:=c2.2.1
  show _≤(Zx (qD x) h w).lo.rv∧(Zx (qD x) h w).lo.rv≤_∧_≤(Zx (qD x) h w).hi.rv∧(Zx (qD x) h w).hi.rv≤_
  rw [e1,e2]
  exact ⟨l1,by grind,by grind,l2⟩
theorem whole_sm{z:Dx}(f:OneF z)(e0:0≤z.e){K:Nat}(h:(z.m:Rat)*p2 z.e<p2 K):z.Sm K:=by
  have m0:=f.p
  by_cases hz:z.m=0
  · rw [f.zero hz];exact ⟨by show blen (val [])≤K;rw [show val []=0 from rfl];exact Nat.zero_le _,by show -(K:Int)≤0;omega,by show (0:Int)≤K;omega⟩
  · have g:=amt_ge (m:=z.m) (e:=z.e) (by omega)
    have:=p2_lt_iff.1 (show p2 (z.e+(blen z.m:Int)-1)<p2 K by grind)
    have b:=Zm (show 0<z.m by omega)
    exact ⟨by omega,by omega,by omega⟩
theorem nW_sm{d:Rat}{h:Vx}(k:HfIv d h){x:Dx}(hx:0≤x.m){w:Int}(hw:1≤w){K:Nat}(h1:x.rv<p2 K)(h2:-(p2 K)<x.rv):(nW h x w).Sm (K+1):=by
  obtain ⟨b1,b2,_,_⟩:=quoW_bd k hx hw h1 h2
  obtain ⟨n1,n2,_⟩:=nW_near (h:=h) (x:=x) (w:=w)
  have en:(nW h x w).rv=(nI h x w:Rat):=(YK Yg).symm
  rw [←en] at n1 n2
  have f:OneF (nW h x w):=nearD_f
  refine whole_sm f Yg ?_
  have q0:1≤p2 (K:Int):=by
    have:=Qz (show (0:Int)≤K by omega)
    rwa [ZX] at this
  have q1:p2 ((K+1:Nat):Int)=2*p2 K:=by
    rw [show ((K+1:Nat):Int)=1+(K:Int) by omega,Qb,p2_one]
  obtain ⟨r1,r2⟩:=QX f.p
  rw [q1]
  rcases (show 0≤(nW h x w).rv∨(nW h x w).rv≤0 by grind) with s | s
  · rw [←r1 s];grind
  · rw [←r2 s];grind
theorem quoW_sm{h:Vx}{x:Dx}{w:Int}{N:Nat}(hx:0≤x.m)(hp:h.P)(sx:x.Sm N)(sh:h.Sm (N+N))(w0:0≤w)(w1:w≤N):(quoW h x w).Sm (200*N+100):=by
  have z:=Xd hx sx
  have o:∀ {a b:Dx} {up:Bool},Cor (qD x) h a b→(Qc a b w up).Sm (200*N+100):=fun {a b up} hc=>by
    have ha:0≤a.m∧a.Sm (N+N):=by rcases hc.1 with e | e<;>rw [e]<;>exact ⟨zZ,z.1⟩
    have hb:0≤b.m∧b.Sm (N+N):=by rcases hc.2 with e | e<;>rw [e];exact ⟨hp.1,sh.1⟩;exact ⟨hp.2,sh.2⟩
    exact (overD_sm (up:=up) ha.1 hb.1 ha.2 hb.2 w0 (by omega)).mono (by omega)
  obtain ⟨⟨a,b,hc,e1⟩,⟨a',b',hc',e2⟩⟩:=div_at (qD x) h w
  constructor
  · show (Zx (qD x) h w).lo.Sm _
    rw [e1];exact o hc
  · show (Zx (qD x) h w).hi.Sm _
    rw [e2];exact o hc'
structure Dx.Bd (L T:Int) (d:Dx):Prop where
  l0:0≤L
  t0:0≤T
  lo:-L≤d.e
  hi:d.e+blen d.m≤T
theorem Dx.Bd.mono{L T L' T':Int}{d:Dx}(h:d.Bd L T)(hl:L≤L')(ht:T≤T'):d.Bd L' T':=by
  obtain ⟨a,b,c,e⟩:=h
  exact ⟨by omega,by omega,by omega,by omega⟩
theorem Dx.Bd.sm{L T:Int}{d:Dx}(h:d.Bd L T){N:Nat}(hn:L+T≤N):d.Sm N:=by
  obtain ⟨a,b,c,e⟩:=h
  exact ⟨by omega,by omega,by omega⟩
theorem mkD_bd{neg:Bool}{m e L T:Int}(h:0≤m)(l0:0≤L)(t0:0≤T)(hl:-L≤e)(ht:e+blen m≤T):(mkD neg m e).Bd L T:=by
  by_cases hz:m=0
  · subst hz;rw [Zd]
    exact ⟨l0,t0,by show -L≤0;omega,by show (0:Int)+blen (val [])≤T;rw [show blen (val [])=0 from rfl];omega⟩
  · have hp:0<m:=by omega
    have hm:=mkD_m (neg:=neg) (e:=e) h
    have he:(mkD neg m e).e=e+tz m:=by unfold mkD;rw [if_neg hz]
    obtain ⟨q,hq,hq2⟩:=tz_spec hp
    have p:=two_pow_pos (tz m)
    generalize tz m=t at *
    have hdiv:m/2^t=2*q+1:=by rw [hq2,Int.mul_ediv_cancel_left _ (by omega)]
    have hb:blen m=blen (2*q+1)+t:=by
      rw [hq2,Int.mul_comm]
      exact Ql (by omega) _
    refine ⟨l0,t0,by rw [he];omega,?_⟩
    rw [he,hm,hdiv];omega
theorem mkS_bd{s e L T:Int}(l0:0≤L)(t0:0≤T)(hl:-L≤e)(ht:e+blen (s.natAbs:Int)≤T):(mkS s e).Bd L T:=mkD_bd (by omega) l0 t0 hl ht
theorem Dx.Bd.one{L T:Int}{d:Dx}(hd:0≤d.m)(h:d.Bd L T):(qC d).Bd L T:=mkD_bd hd h.l0 h.t0 h.lo h.hi
theorem Dx.Bd.neg{L T:Int}{d:Dx}(hd:0≤d.m)(h:d.Bd L T):(ZO d).Bd L T:=mkD_bd hd h.l0 h.t0 h.lo h.hi
theorem Dx.Bd.shift{L T n L' T':Int}{d:Dx}(hd:0≤d.m)(h:d.Bd L T)(l0:0≤L')(t0:0≤T')(hl:L-n≤L')(ht:T+n≤T'):(zC d n).Bd L' T' :=
  mkD_bd hd l0 t0 (by have:=h.lo;omega) (by have:=h.hi;omega)
theorem Dx.Bd.times{L T L' T':Int}{a b:Dx}(ha:0≤a.m)(hb:0≤b.m)(h:a.Bd L T)(k:b.Bd L' T'):(zQ a b).Bd (L+L') (T+T'):=by
  have:=blen_mul ha hb
  obtain ⟨a1,a2,a3,a4⟩:=h
  obtain ⟨b1,b2,b3,b4⟩:=k
  exact mkD_bd (Int.mul_nonneg ha hb) (by omega) (by omega) (by omega) (by omega)
theorem blen_scl{d:Dx}(hd:0≤d.m)(k:Nat):(blen ((d.sm*2^k).natAbs:Int):Int)≤blen d.m+k:=by
  rw [sm_abs hd]
  by_cases h:d.m=0
  · rw [h,Int.zero_mul];show ((0:Nat):Int)≤_;omega
  · rw [Ql (by omega)];omega
theorem Dx.Bd.plusX{L T:Int}{a b:Dx}(ha:0≤a.m)(hb:0≤b.m)(h:a.Bd L T)(k:b.Bd L T):(plusX a b).Bd L (T+1):=by
  obtain ⟨l0,t0,a1,a2⟩:=h
  obtain ⟨_,_,b1,b2⟩:=k
  unfold Go.Proofs.YtenkjloaghmjfaaGreatDoor.plusX
  split
  · exact ⟨l0,by omega,b1,by omega⟩
  · split
    · exact ⟨l0,by omega,a1,by omega⟩
    · have c1:=blen_scl ha (a.e-min a.e b.e).toNat
      have c2:=blen_scl hb (b.e-min a.e b.e).toNat
      obtain ⟨N,hN⟩:∃ N:Nat,(N:Int)=max (T-min a.e b.e) 0:=⟨(max (T-min a.e b.e) 0).toNat,by omega⟩
      have d:=blen_natAbs_add (X:=a.sm*2^(a.e-min a.e b.e).toNat) (Y:=b.sm*2^(b.e-min a.e b.e).toNat) (N:=N) (by omega) (by omega)
      refine mkS_bd l0 (by omega) (by omega) ?_
      omega
theorem Dx.Bd.plus{L T:Int}{a b:Dx}(ha:0≤a.m)(hb:0≤b.m)(h:a.Bd L T)(k:b.Bd L T):(Qx a b).Bd L (T+1):=Dx.Bd.plusX zZ zZ (h.one ha) (k.one hb)
theorem Dx.Bd.cut{L T:Int}{d:Dx}{p:Int}{up:Bool}(hd:0≤d.m)(hp:0≤p)(h:d.Bd L T):(cutD d p up).Bd L (T+1):=by
  have m0:=zZ (d:=d)
  obtain ⟨l0,t0,a1,a2⟩:=h.one hd
  unfold cutD cutX
  split
  · exact ⟨l0,by omega,a1,by omega⟩
  · rename_i hn
    have p0:=two_pow_pos ((blen (qC d).m:Int)-p).toNat
    have q0:0≤(qC d).m/2^((blen (qC d).m:Int)-p).toNat:=Int.ediv_nonneg m0 (by omega)
    have hb:(blen ((qC d).m/2^((blen (qC d).m:Int)-p).toNat+if up == (qC d).neg then 0 else 1):Int)≤max (blen (qC d).m-((blen (qC d).m:Int)-p)) 0+1:=by
      obtain ⟨N,hN⟩:∃ N:Nat,(N:Int)=max (blen (qC d).m-((blen (qC d).m:Int)-p)) 0:=⟨(max (blen (qC d).m-((blen (qC d).m:Int)-p)) 0).toNat,by omega⟩
      have q1:(qC d).m/2^((blen (qC d).m:Int)-p).toNat<2^N:=by
        refine Int.ediv_lt_of_lt_mul p0 ?_
        rw [←Int.pow_add]
        exact Int.lt_of_lt_of_le (Q5 _) (Qf (by omega))
      have:blen ((qC d).m/2^((blen (qC d).m:Int)-p).toNat+if up == (qC d).neg then 0 else 1)≤N+1:=QW (by
        rw [Int.pow_succ];have:=two_pow_pos N;split<;>omega)
      omega
    refine mkD_bd (by split<;>omega) l0 (by omega) (by omega) ?_
    omega
def Vx.Bd(L T:Int)(v:Vx):Prop:=v.lo.Bd L T∧v.hi.Bd L T
theorem Vx.Bd.sm{L T:Int}{v:Vx}(h:v.Bd L T){N:Nat}(hn:L+T≤N):v.Sm N:=⟨h.1.sm hn,h.2.sm hn⟩
theorem Vx.Bd.mono{L T L' T':Int}{v:Vx}(h:v.Bd L T)(hl:L≤L')(ht:T≤T'):v.Bd L' T':=⟨h.1.mono hl ht,h.2.mono hl ht⟩
theorem Vx.Bd.trim{L T:Int}{v:Vx}{p:Int}(hv:v.P)(hp:0≤p)(h:v.Bd L T):(qV v p).Bd L (T+1):=⟨h.1.cut hv.1 hp,h.2.cut hv.2 hp⟩
theorem Dx.Bd.point{L T:Int}{d:Dx}(hd:0≤d.m)(h:d.Bd L T):(qD d).Bd L T:=⟨h.one hd,h.one hd⟩
theorem Vx.Bd.turn{L T:Int}{v:Vx}(hv:v.P)(h:v.Bd L T):(ZF v).Bd L T:=⟨h.2.neg hv.2,h.1.neg hv.1⟩
theorem Vx.Bd.plus{L T:Int}{v u:Vx}{p:Int}(hv:v.P)(hu:u.P)(hp:0≤p)(h:v.Bd L T)(k:u.Bd L T):(plusV v u p).Bd L (T+1+1):=Vx.Bd.trim (v:=sumV v u) ⟨YF,YF⟩ hp ⟨h.1.plus hv.1 hu.1 k.1,h.2.plus hv.2 hu.2 k.2⟩
theorem Vx.Bd.less{L T:Int}{v u:Vx}{p:Int}(hv:v.P)(hu:u.P)(hp:0≤p)(h:v.Bd L T)(k:u.Bd L T):(lessV v u p).Bd L (T+1+1):=h.plus (u:=ZF u) hv ⟨YQ,YQ⟩ hp (k.turn hu)
theorem spanS_bd{L T:Int}{v:Vx}{d:Dx}(h:v.Bd L T)(k:d.Bd L T):(Qp v d).Bd L T:=by
  unfold Qp
  constructor
  · show (if QJ d v.lo<0 then d else v.lo).Bd L T
    split
    · exact k
    · exact h.1
  · show (if 0<QJ d v.hi then d else v.hi).Bd L T
    split
    · exact k
    · exact h.2
theorem Vx.Bd.times{L T L' T':Int}{v u:Vx}{p:Int}(hv:v.P)(hu:u.P)(hp:0≤p)(h:v.Bd L T)(k:u.Bd L' T'):(qK v u p).Bd (L+L') (T+T' + 1) :=
  Vx.Bd.trim (prodV_p v u) hp (spanS_bd (spanS_bd (spanS_bd ⟨h.1.times hv.1 hu.1 k.1,h.1.times hv.1 hu.1 k.1⟩ (h.1.times hv.1 hu.2 k.2)) (h.2.times hv.2 hu.1 k.1)) (h.2.times hv.2 hu.2 k.2))
theorem fits_bd{d:Dx}(h:d.fitsB=true):d.Bd 32768 98304:=by
  have e:=fits_e h
  have:=(ZQ h).1
  exact ⟨by omega,by omega,by omega,by omega⟩
def tyFI:TyRow:=⟨119,1,false,[.lit .nilFunc],.func⟩
def tys6:List TyRow:=tyFI :: tys5
theorem tys6_ok:RowsOk Tryz.prog tys6:=⟨by kernel_rfl,tys5_ok⟩
def qPiW(co:Int→Vx×Int):qU:=qF [.i .i64] fun (w:Int)=>(none,reT (co w))
def sQp(co:Int→Vx×Int):List (FuncId×qU):=[(108,qF [.i .u8,.i .i64] fun (k:Int) (p:Int)=>(some (k=1),reT (co p)))]
theorem sQp_ok:SpecsOk Tryz.prog (sQp constR):=⟨cConst_ok,trivial⟩
theorem qPi_vc(w:Int)(co:Int→Vx×Int)(Q:Tv→Prop):qH ⟨tys6,sQp co⟩ (fun _=>none) 0 Tryz.f107 [.one (.int .i64 w)] Q=((1:Int)=(1:Int)∧Q (Tv.tup [Sv.agg (ivL false (co w).fst),Sv.one (At.int .i64 (co w).snd)])):=by kernel_rfl
theorem qPi_ok:SpecOk Tryz.prog 107 (qPiW constR) :=
  qG (qO tys6_ok sQp_ok) mixed Tryz.func107 rfl (by decide) (by decide) fun (w:Int) _ _=>⟨fun _=>none,0,(qPi_vc w constR _).mpr ⟨rfl,rfl⟩⟩
def sRed:List (FuncId×qU):=[(141,rNear),(144,rBy4),(147,rInt)] ++ sRaw8
theorem sRed_ok:SpecsOk Tryz.prog sRed:=⟨rNear_ok,rBy4_ok,rInt_ok,YG⟩
def zW(w:Int):Vx:=zE (YM w) (-1)
theorem Ya{w:Int}(w0:8≤w)(w1:w≤65000):HfIv (p2 (-3-w)/2) (zW w):=(constPi_iv w0 w1).half
theorem blen32{a w:Int}(w0:0≤w)(h:a<64*2^w.toNat):(blen a:Int)≤w+6:=by
  have:blen a≤w.toNat+6:=QW      (by rw [Int.pow_add];have:(2:Int)^6=64:=by decide
                                     rw [this];omega)
  omega
theorem pow_ge{w:Int}(w0:64≤w)(w1:w≤65536):80*w+320≤2^w.toNat:=by
  obtain ⟨k,hk⟩:∃ k:Nat,w=k+32:=⟨(w-32).toNat,by omega⟩
  have pb:=pow_big k
  rw [show w.toNat=k+32 by omega];omega
theorem ivF_bd{z:Fx}{w:Int}(w0:64≤w)(w1:w≤65536)(a0:0≤z.a)(e0:0≤z.e)(e1:z.e≤80*w+320)(a1:z.a≤32*2^w.toNat):(ivF z w).Bd w 7:=by
  have g:=pow_ge w0 w1
  have b1:=blen32 (a:=z.a) (w:=w) (by omega) (by omega)
  have b2:=blen32 (a:=z.a+z.e) (w:=w) (by omega) (by omega)
  exact ⟨mkD_bd a0 (by omega) (by omega) (by omega) (by omega),mkD_bd (by omega) (by omega) (by omega) (by omega) (by omega)⟩
theorem Vx.Bd.scale1{L T:Int}{v:Vx}(hv:v.P)(h:v.Bd L T):(zE v (-1)).Bd (L+1) T:=⟨h.1.shift hv.1 (by have:=h.1.l0;omega) h.1.t0 (by omega) (by omega),h.2.shift hv.2 (by have:=h.1.l0;omega) h.1.t0 (by omega) (by omega)⟩
theorem constPi_bd{w:Int}(w0:8≤w)(w1:w≤16384):(YM w).Bd (w+64) 8:=by
  obtain ⟨a0,e0,e1,a1⟩:=piF_e (w:=w+64) (by omega) (by omega)
  exact Vx.Bd.trim (encPi_iv w0 (by omega)).p (by omega) (ivF_bd (by omega) (by omega) a0 e0 e1 a1)
theorem halfP_bd{w:Int}(w0:8≤w)(w1:w≤16384):(zW w).Bd (w+65) 8:=Vx.Bd.mono ((constPi_bd w0 w1).scale1 (constPi_iv w0 (show w≤65000 by omega)).p) (by omega) (by omega)
def tryT(r:Int×Vx×Bool):Tv:=.tup [.one (.int .i64 r.1),.agg (ivL true r.2.1),.one (.bool r.2.2)]
def inX(x:Dx):Prop:=x.Bd 32768 98304∧x.rv<p2 (1024:Nat)∧-(p2 (1024:Nat))<x.rv
def wTry(pr:Dx→Int→Int→Prop)(g:Dx→Int→Int→Int×Vx×Bool):qU:=fun l=>match l with
  | [.agg [.bool ng,.words false xs,.int .i64 e],.one (.int .i64 p),.one (.int .i64 w),.one (.fn n [])]=>(match Nat.beq n 107 with
    | true=>(some (pr ⟨ng,xs,e⟩ p w),tryT (g ⟨ng,xs,e⟩ p w))
    | false=>ZL)
  | _=>ZL
theorem qTry_vc(x:Dx)(p w:Int)(co:Int→Vx×Int)(Q:Tv→Prop):qH ⟨tys6,(107,qPiW co) :: sRed⟩ (fun _=>none) 0 Tryz.f109 [.agg (dyL false x),.one (.int .i64 p),.one (.int .i64 w),.one (.fn 107 [])] Q=(br (neI (co w).snd 0) (Q (Tv.tup [Sv.one (At.int .i64 0),Sv.agg [At.bool false,At.words true [],At.int .i64 0,At.bool false,At.words true [],At.int .i64 0],Sv.one (At.bool false)])) ((eB 2305843009213693952 (co w).fst.lo∧eB 2305843009213693952 (co w).fst.hi∧(-2305843009213693952:Int)≤(-1)∧(-1:Int)≤2305843009213693952)∧eB 4611686018427387904 x∧(Vx.Sm 67108864 (qD x)∧Vx.Sm 67108864 (zE (co w).fst (-1))∧Dx.m (zE (co w).fst (-1)).lo≠0∧Dx.m (zE (co w).fst (-1)).hi≠0∧(0:Int)≤w∧w≤67108864)∧true=true∧Dx.Sm 268435456 (Zx (qD x) (zE (co w).fst (-1)) w).lo∧Dx.Sm 268435456 (Zx (qD x) (zE (co w).fst (-1)) w).hi∧(Dx.Sm 68719476736 (Qy (Zx (qD x) (zE (co w).fst (-1)) w).lo)∧Dx.Sm 68719476736 (Qy (Zx (qD x) (zE (co w).fst (-1)) w).hi))∧true=true∧br (neI (QJ (Qy (Zx (qD x) (zE (co w).fst (-1)) w).lo) (Qy (Zx (qD x) (zE (co w).fst (-1)) w).hi)) 0) (Q (Tv.tup [Sv.one (At.int .i64 0),Sv.agg [At.bool false,At.words true [],At.int .i64 0,At.bool false,At.words true [],At.int .i64 0],Sv.one (At.bool false)])) (eB 4611686018427387904 x∧eB 4611686018427387904 (Qy (Zx (qD x) (zE (co w).fst (-1)) w).lo)∧inR (w+64)∧(Vx.Sm 268435456 (qD (Qy (Zx (qD x) (zE (co w).fst (-1)) w).lo))∧Vx.Sm 268435456 (zE (co w).fst (-1))∧(0:Int)≤w+64∧w+64≤1099511627776)∧(Vx.Sm 134217728 (qD x)∧Vx.Sm 134217728 (qK (qD (Qy (Zx (qD x) (zE (co w).fst (-1)) w).lo)) (zE (co w).fst (-1)) (w+64))∧(0:Int)≤w∧w≤1099511627776)∧true=true∧(OneF (Qy (Zx (qD x) (zE (co w).fst (-1)) w).lo)∧(0:Int)≤(Qy (Zx (qD x) (zE (co w).fst (-1)) w).lo).e∧(Qy (Zx (qD x) (zE (co w).fst (-1)) w).lo).e≤4611686018427387904)∧(Vx.Sm 67108864 (lessV (qD x) (qK (qD (Qy (Zx (qD x) (zE (co w).fst (-1)) w).lo)) (zE (co w).fst (-1)) (w+64)) w)∧(0:Int)≤p)∧true=true∧Q (Tv.tup [Sv.one (At.int .i64 (by4I (Qy (Zx (qD x) (zE (co w).fst (-1)) w).lo))),Sv.agg (ivL true (lessV (qD x) (qK (qD (Qy (Zx (qD x) (zE (co w).fst (-1)) w).lo)) (zE (co w).fst (-1)) (w+64)) w)),Sv.one (At.bool (Q7 (lessV (qD x) (qK (qD (Qy (Zx (qD x) (zE (co w).fst (-1)) w).lo)) (zE (co w).fst (-1)) (w+64)) w) p))])))):=by kernel_rfl
def preTry(x:Dx)(p w:Int):Prop:=inX x∧8≤w∧w≤8192∧0≤p
theorem sTry_ok:SpecsOk Tryz.prog ((107,qPiW constR) :: sRed):=⟨qPi_ok,sRed_ok⟩
theorem qTry_ok:SpecOk Tryz.prog 109 (wTry preTry (fun x p w=>tryW (zW w) x p w)) :=
  specOk_pat (qO tys6_ok sTry_ok) mixed Tryz.func109 rfl (by decide) 4 (by decide) fun l p t hwf e hp=>by
    unfold wTry at e
    split at e
    · rename_i ng xs ee p w n
      split at e
      rotate_left
      · cases e;exact hp.elim
      rename_i hb
      obtain rfl:=Nat.eq_of_beq_eq_true hb
      cases e
      obtain ⟨⟨bx,x1,x2⟩,w0,w1,p0⟩:preTry ⟨ng,xs,ee⟩ p w:=hp
      have hx:0≤Dx.m ⟨ng,xs,ee⟩:=qM hwf.1.2.1.1
      refine ⟨Nat.le_refl 4,fun _=>none,0,(qTry_vc ⟨ng,xs,ee⟩ p w constR _).mpr ?_⟩
      have ec:constR w=(YM w,0):=by unfold constR;rw [if_pos ⟨w0,w1⟩]
      rw [ec]
      generalize (⟨ng,xs,ee⟩:Dx)=x at *
      have hf:=Ya w0 (show w≤65000 by omega)
      have hb:=halfP_bd w0 (show w≤16384 by omega)
      have cs:=QZ (constPi_right w0 (show w≤16384 by omega))
      refine qB (fun h=>by cases h) fun _=>?_
      show (eB _ (YM w).lo∧eB _ (YM w).hi∧_∧_)∧_∧(_∧Vx.Sm _ (zW w)∧Dx.m (zW w).lo≠0∧Dx.m (zW w).hi≠0∧_∧_)∧_∧Dx.Sm _ (quoW (zW w) x w).lo∧Dx.Sm _ (quoW (zW w) x w).hi∧(Dx.Sm _ (nW (zW w) x w)∧Dx.Sm _ (Qy (quoW (zW w) x w).hi))∧_ ∧
        br (!sureW (zW w) x w) (tryT (0,zeroIv,false)=tryT (tryW (zW w) x p w)∨fgT (tryT (0,zeroIv,false))=tryT (tryW (zW w) x p w)) (_∧eB _ (nW (zW w) x w)∧_∧(Vx.Sm _ (qD (nW (zW w) x w))∧Vx.Sm _ (zW w)∧_∧_)∧(_∧Vx.Sm _ (qK (qD (nW (zW w) x w)) (zW w) (w+64))∧_∧_)∧_∧(OneF (nW (zW w) x w)∧0≤(nW (zW w) x w).e∧(nW (zW w) x w).e≤4611686018427387904)∧(Vx.Sm _ (zY (zW w) x w)∧_)∧_ ∧
          (tryT (by4I (nW (zW w) x w),zY (zW w) x w,Q7 (zY (zW w) x w) p)=tryT (tryW (zW w) x p w)∨fgT (tryT (by4I (nW (zW w) x w),zY (zW w) x w,Q7 (zY (zW w) x w) p))=tryT (tryW (zW w) x p w)))
      generalize zW w=h at *
      have sx:=bx.sm (N:=131072) (by omega)
      have hs:=hb.sm (N:=16384) (by omega)
      have q:=quoW_sm (w:=w) hx hf.p sx (hs.mono (by omega)) (by omega) (by omega)
      have sn:=nW_sm hf hx (w:=w) (by omega) x1 x2
      have np:0≤(nW h x w).m:=nearD_p
      have bn:(nW h x w).Bd 0 2051:=⟨by omega,by omega,Yg,by have:=sn.1;have:=sn.2.2;omega⟩
      have z1:=bx.point hx
      have zn:=bn.point np
      have zt:(qK (qD (nW h x w)) h (w+64)).Bd (0+(w+65)) (2051+8+1):=zn.times (zJ _) hf.p (by omega) hb
      have zr:(zY h x w).Bd 32768 98306:=z1.less (zJ x) (Q9 _ _) (by omega) (zt.mono (by omega) (by omega))
      have r1:Dx.rv h.lo≠0:=by have:=hf.lo;grind
      have r2:Dx.rv h.hi≠0:=by have:=hf.lo;have:=hf.le;grind
      refine ⟨⟨cs.1.eB (by omega),cs.2.eB (by omega),by omega,by omega⟩,sx.eB (by omega),⟨z1.sm (by omega),hs.mono (by omega),rv_ne r1,rv_ne r2,by omega,by omega⟩,rfl,q.1.mono (by omega),q.2.mono (by omega),⟨sn.mono (by omega),(nearD_sm (divV_p _ _ _).2 q.2 (by omega)).mono (by omega)⟩,rfl,qB (fun hb=>.inl ?_) fun hb=>⟨sx.eB (by omega),sn.eB (by omega),⟨by omega,by omega⟩,⟨zn.sm (by omega),hs.mono (by omega),by omega,by omega⟩,⟨z1.sm (by omega),zt.sm (by omega),by omega,by omega⟩,rfl,⟨nearD_f,Yg,by have:=sn.2.2;omega⟩,⟨zr.sm (by omega),p0⟩,rfl,.inl ?_⟩⟩
      · rw [tryW,if_neg (by rw [QE hb];simp)]
      · rw [tryW,if_pos (q9 hb)]
    · cases e;exact hp.elim
def dyX(b:Nat)(nw:Bool)(x:Dx):List (Nat×Nat×At):=[(b,0,.bool x.neg),(b,1,.words nw x.xs),(b,2,.int .i64 x.e)]
def zvX(b:Nat):List (Nat×Nat×At):=[(b,0,.bool false),(b,1,.words true []),(b,2,.int .i64 0),(b,3,.bool false),(b,4,.words true []),(b,5,.int .i64 0)]
def quK:LKeep:=⟨[1,2,5,7,8],[(0,3),(2,6)],3⟩
def quSt(x:Dx)(p:Int)(a:Nat×Int):List (Nat×Tv)×List (Nat×Nat×At) :=
  ([(1,iT p),(2,.sv (.one (.ptr 0 0))),(5,.sv (.one (.ptr 2 0))),(7,.sv (.one (.fn 107 []))),(8,iT a.2)],dyX 0 true x ++ zvX 2)
def quInv(x:Dx)(p:Int)(P:Nat×Int→Prop):Nat→Option LInv:=invAt 11 (.rel quK (Nat×Int) (quSt x p) P (fun a=>a.1))
theorem qQu_vc(x:Dx)(p:Int)(P:Nat×Int→Prop)(pr:Dx→Int→Int→Prop)(g:Dx→Int→Int→Int×Vx×Bool)(Q:Tv→Prop):qH ⟨tys6,(109,wTry pr g) :: sRed⟩ (quInv (qC x) p P) 0 Tryz.f75 [.agg (dyL false x),.one (.int .i64 p)] Q=(br (!Dx.fitsB x) (Q (Tv.tup [Sv.one (At.int .i64 0),Sv.agg [At.bool false,At.words true [],At.int .i64 0,At.bool false,At.words true [],At.int .i64 0],Sv.one (At.int .i64 2)])) (br (ltI p 8) (Q (Tv.tup [Sv.one (At.int .i64 0),Sv.agg [At.bool false,At.words true [],At.int .i64 0,At.bool false,At.words true [],At.int .i64 0],Sv.one (At.int .i64 2)])) (br (ltI 3968 p) (Q (Tv.tup [Sv.one (At.int .i64 0),Sv.agg [At.bool false,At.words true [],At.int .i64 0,At.bool false,At.words true [],At.int .i64 0],Sv.one (At.int .i64 2)])) (((-4611686018427387904:Int)≤x.e∧x.e≤4611686018427387904)∧br (Dx.zeroB (qC x)) (Q (Tv.tup [Sv.one (At.int .i64 0),Sv.agg [At.bool false,At.words true [],At.int .i64 0,At.bool false,At.words true [],At.int .i64 0],Sv.one (At.int .i64 0)])) (((-2305843009213693952:Int)≤(qC x).e∧(qC x).e≤2305843009213693952)∧br (leI 1024 ((qC x).e+(↑(blen (Dx.m (qC x))):Int)-1)) (Q (Tv.tup [Sv.one (At.int .i64 0),Sv.agg [At.bool false,At.words true [],At.int .i64 0,At.bool false,At.words true [],At.int .i64 0],Sv.one (At.int .i64 3)])) (((-2305843009213693952:Int)≤(qC x).e∧(qC x).e≤2305843009213693952)∧inR (maxI ((qC x).e+(↑(blen (Dx.m (qC x))):Int)-1) 0+p)∧inR (maxI ((qC x).e+(↑(blen (Dx.m (qC x))):Int)-1) 0+p+64)∧true=true∧(∃ (a:Nat×Int),P a∧Sg.mk [(1,iT p),(2,Tv.sv (Sv.one (At.ptr 0 0))),(5,Tv.sv (Sv.one (At.ptr ((0:Nat)+2) 0))),(7,Tv.sv (Sv.one (At.fn 107 []))),(8,iT (maxI ((qC x).e+(↑(blen (Dx.m (qC x))):Int)-1) 0+p+64))] [(0,0,At.bool (qC x).neg),(0,1,At.words true (qC x).xs),(0,2,At.int .i64 (qC x).e),(2,0,At.bool false),(2,1,At.words true []),(2,2,At.int .i64 0),(2,3,At.bool false),(2,4,At.words true []),(2,5,At.int .i64 0)] 3=LKeep.at quK (quSt (qC x) p a))∧∀ (a:Nat×Int),P a→pr (qC x) p (Yw a.snd 8192)∧br (g (qC x) p (Yw a.snd 8192)).snd.snd (br (qT (g (qC x) p (Yw a.snd 8192)).snd.fst) (true=true∧Q (Tv.tup [Sv.one (At.int .i64 (g (qC x) p (Yw a.snd 8192)).fst),Sv.agg (ivL true (g (qC x) p (Yw a.snd 8192)).snd.fst),Sv.one (At.int .i64 0)])) (br (eqI (Yw a.snd 8192) 8192) (Q (Tv.tup [Sv.one (At.int .i64 0),Sv.agg [At.bool false,At.words true [],At.int .i64 0,At.bool false,At.words true [],At.int .i64 0],Sv.one (At.int .i64 6)])) (inR ((2:Int)*Yw a.snd 8192)∧true=true∧∃ (a':Nat×Int),P a'∧Sg.mk [(1,iT p),(2,Tv.sv (Sv.one (At.ptr 0 0))),(5,Tv.sv (Sv.one (At.ptr 2 0))),(7,Tv.sv (Sv.one (At.fn 107 []))),(8,iT ((2:Int)*Yw a.snd 8192))] [(0,0,At.bool (qC x).neg),(0,1,At.words true (qC x).xs),(0,2,At.int .i64 (qC x).e),(2,0,At.bool false),(2,1,At.words true []),(2,2,At.int .i64 0),(2,3,At.bool false),(2,4,At.words true []),(2,5,At.int .i64 0)] 3=LKeep.at quK (quSt (qC x) p a')∧a'.fst<a.fst))) (br (eqI (Yw a.snd 8192) 8192) (Q (Tv.tup [Sv.one (At.int .i64 0),Sv.agg [At.bool false,At.words true [],At.int .i64 0,At.bool false,At.words true [],At.int .i64 0],Sv.one (At.int .i64 6)])) (inR ((2:Int)*Yw a.snd 8192)∧true=true∧∃ (a':Nat×Int),P a'∧Sg.mk [(1,iT p),(2,Tv.sv (Sv.one (At.ptr 0 0))),(5,Tv.sv (Sv.one (At.ptr 2 0))),(7,Tv.sv (Sv.one (At.fn 107 []))),(8,iT ((2:Int)*Yw a.snd 8192))] [(0,0,At.bool (qC x).neg),(0,1,At.words true (qC x).xs),(0,2,At.int .i64 (qC x).e),(2,0,At.bool false),(2,1,At.words true []),(2,2,At.int .i64 0),(2,3,At.bool false),(2,4,At.words true []),(2,5,At.int .i64 0)] 3=LKeep.at quK (quSt (qC x) p a')∧a'.fst<a.fst)))))))):=by kernel_rfl
def XG(x:Dx):Int:=x.e+blen x.m-1
def tryP(x:Dx)(p w:Int):Int×Vx×Bool:=tryW (zW w) x p w
def okW(x:Dx)(p w:Int):Bool:=(tryP x p w).2.2 && qT (tryP x p w).2.1
def quarL(x:Dx)(p:Int):Nat→Int→Int×Vx×Int
  | 0,_=>(0,zeroIv,6)
  | n+1,w=>if okW x p (min w 8192)=true then ((tryP x p (min w 8192)).1,(tryP x p (min w 8192)).2.1,0) else if min w 8192=8192 then (0,zeroIv,6) else quarL x p n (2*min w 8192)
def zB(x:Dx)(p:Int):Int×Vx×Int :=
  if x.fitsB=true∧8≤p∧p≤3968 then (if (qC x).m=0 then (0,zeroIv,0) else if 1024≤XG (qC x) then (0,zeroIv,3) else quarL (qC x) p 9 (max (XG (qC x)) 0+p+64)) else (0,zeroIv,2)
def quT(r:Int×Vx×Int):Tv:=.tup [.one (.int .i64 r.1),.agg (ivL false r.2.1),.one (.int .i64 r.2.2)]
def qQu:qU:=qF [.d,.i .i64] fun (x:Dx) (p:Int)=>(none,quT (zB x p))
theorem top_lt{x:Dx}(hx:0≤x.m)(h:XG x<1024):x.rv<p2 (1024:Nat)∧-(p2 (1024:Nat))<x.rv:=by
  have q:=qL ((1024:Nat):Int)
  have a:=amt_lt (m:=x.m) (e:=x.e)
  have l:=Qz (show x.e+(blen x.m:Int)≤((1024:Nat):Int) by unfold XG at h;omega)
  obtain ⟨r1,r2⟩:=QX hx
  rcases (show 0≤x.rv∨x.rv≤0 by grind) with s | s
  · have:=r1 s
    generalize p2 ((1024:Nat):Int)=Q at *
    constructor<;>grind
  · have:=r2 s
    generalize p2 ((1024:Nat):Int)=Q at *
    constructor<;>grind
theorem sQu_ok:SpecsOk Tryz.prog ((109,wTry preTry (fun x p w=>tryW (zW w) x p w)) :: sRed):=⟨qTry_ok,sRed_ok⟩
theorem qQu_ok:SpecOk Tryz.prog 75 qQu :=
  zA (qO tys6_ok sQu_ok) mixed Tryz.func75 rfl (by decide) (by decide) fun (x:Dx) hxw (p:Int) _ _=>by
    have hx:=Dx.Wf.m0 hxw
    obtain ⟨R,hR⟩:∃ R,R=quarL (qC x) p 9 (max (XG (qC x)) 0+p+64):=⟨_,rfl⟩
    refine ⟨quInv (qC x) p (fun a=>quarL (qC x) p a.1 a.2=R∧1≤a.1∧8≤a.2∧a.2≤16384∧16384≤a.2*2^a.1),0,?_⟩
    show qH _ _ _ _ _ (fun t=>t=quT (zB x p)∨fgT t=quT (zB x p))
    refine (qQu_vc x p _ preTry (fun x p w=>tryW (zW w) x p w) _).mpr (qB (fun h=>.inr ?_) fun h=>qB (fun h1=>.inr ?_) fun h1=>qB (fun h2=>.inr ?_) fun h2=>?_)
    · rw [zB,if_neg (by rw [QE h];simp)];rfl
    · rw [zB,if_neg (by have:=qW.1 h1;omega)];rfl
    · rw [zB,if_neg (by have:=qW.1 h2;omega)];rfl
    have h:=q9 h
    have h1:=qJ.1 h1
    have h2:=qJ.1 h2
    have bx:=(fits_bd h).one hx
    have xe:=fits_e h
    have y0:=zZ (d:=x)
    rw [zB,if_pos ⟨h,by omega,by omega⟩]
    refine ⟨⟨by omega,by omega⟩,qB (fun h3=>.inr ?_) fun h3=>?_⟩
    · rw [if_pos (QC.1 h3)];rfl
    rw [if_neg (QV.1 h3)]
    have te:(qC x).e+(blen (qC x).m:Int)-1=XG (qC x):=rfl
    have b1:=bx.lo
    have b2:=bx.hi
    have bp:=Zm (show 0<(qC x).m by have:=QV.1 h3;omega)
    rw [te]
    refine ⟨⟨by omega,by omega⟩,qB (fun h4=>.inr ?_) fun h4=>?_⟩
    · rw [if_pos (zS.1 h4)];rfl
    have h4:=Qn.1 h4
    rw [if_neg h4,maxI_eq,←hR]
    obtain ⟨t1,t2⟩:=top_lt y0 (by omega)
    refine ⟨⟨by omega,by omega⟩,⟨by omega,by omega⟩,⟨by omega,by omega⟩,rfl,⟨(9,max (XG (qC x)) 0+p+64),⟨hR.symm,by omega,by omega,by omega,by show 16384≤(max (XG (qC x)) 0+p+64)*2^9;omega⟩,rfl⟩,fun a ha=>?_⟩
    obtain ⟨n,w⟩:=a
    obtain ⟨e,n1,w0,w1,w2⟩:quarL (qC x) p n w=R∧1≤n∧8≤w∧w≤16384∧16384≤w*2^n:=ha
    obtain ⟨m,rfl⟩:∃ m,n=m+1:=⟨n-1,by omega⟩
    rw [quarL] at e
    show preTry (qC x) p (Yw w 8192)∧br (tryP (qC x) p (Yw w 8192)).2.2 (br (qT (tryP (qC x) p (Yw w 8192)).2.1) _ _) _
    rw [minI_eq]
    refine ⟨⟨⟨bx,t1,t2⟩,by omega,by omega,by omega⟩,?_⟩
    have fin:okW (qC x) p (min w 8192)=false→min w 8192≠8192→inR (2*min w 8192)∧true=true∧∃ a':Nat×Int,(quarL (qC x) p a'.1 a'.2=R∧1≤a'.1∧8≤a'.2∧a'.2≤16384∧16384≤a'.2*2^a'.1)∧quK.at (quSt (qC x) p (0,2*min w 8192))=quK.at (quSt (qC x) p a')∧a'.1<m+1:=fun ok hw=>by
      rw [if_neg (by rw [ok];simp),if_neg hw] at e
      have hm:min w 8192=w:=by omega
      rw [hm] at e ⊢
      rw [Int.pow_succ] at w2
      have m1:1≤m:=by
        refine Nat.pos_of_ne_zero fun hm0=>?_
        rw [hm0,Int.pow_zero] at w2;omega
      refine ⟨⟨by omega,by omega⟩,rfl,(m,2*w),⟨e,m1,by omega,by omega,?_⟩,rfl,Nat.lt_succ_self _⟩
      show 16384≤2*w*2^m
      rw [Int.mul_comm (2^m) 2,←Int.mul_assoc,Int.mul_comm w 2] at w2;exact w2
    have hard:okW (qC x) p (min w 8192)=false→min w 8192=8192→R=(0,zeroIv,6):=fun ok hw=>by
      rw [if_neg (by rw [ok];simp),if_pos hw] at e
      exact e.symm
    refine qB (fun h5=>qB (fun h6=>⟨rfl,.inr ?_⟩) fun h6=>?_) fun h5=>?_
    · rw [if_pos (by unfold okW;rw [h5,h6];rfl)] at e
      rw [←e];rfl
    · have ok:okW (qC x) p (min w 8192)=false:=by unfold okW;rw [h6,Bool.and_false]
      exact qB (fun h7=>.inr (by rw [hard ok (zX.1 h7)];rfl)) fun h7=>fin ok (qR.1 h7)
    · have ok:okW (qC x) p (min w 8192)=false:=by unfold okW;rw [h5,Bool.false_and]
      exact qB (fun h7=>.inr (by rw [hard ok (zX.1 h7)];rfl)) fun h7=>fin ok (qR.1 h7)
def niTimes:qU:=qF [.fx,.i .u64] fun (x:Fw) (n:Int)=>(some (x.Ok∧x.e≤549755813888∧0≤n∧n≤64),fxT (QH x.f n))
theorem niTimes_vc(x:Fw)(n:Int)(Q:Tv→Prop):qH ⟨tys3,sNi⟩ (fun _=>none) 0 Tryz.f162 [.agg (fwL false x),.one (.int .u64 n)] Q=(zR n∧List.length (ws (val x.xs))+List.length (ws (val (ws n)))≤17592186044414∧true=true∧Q (Tv.sv (Sv.agg [At.words true (ws (val x.xs*val (ws n))),At.int .u64 (IntKind.wrap IntKind.u64 (x.e*n))]))):=by kernel_rfl
theorem niTimes_ok:SpecOk Tryz.prog 162 niTimes :=
  zA (qO QM sNi_ok) mixed Tryz.func162 rfl (by decide) (by decide) fun (x:Fw) hx (n:Int) _ hp=>⟨fun _=>none,0,by
    obtain ⟨⟨l,e0,e1⟩,e2,n0,n1⟩:x.Ok∧x.e≤549755813888∧0≤n∧n≤64:=hp
    show qH _ _ _ _ _ (fun t=>t=fxT (QH x.f n)∨fgT t=fxT (QH x.f n))
    have w0:zR n:=⟨by omega,by omega⟩
    refine (niTimes_vc x n _).mpr ⟨w0,?_,rfl,.inr ?_⟩
    · rw [qN n0]
      have l1:=Yq (qM hx.1)
      have l3:blen (val x.xs)≤64*x.xs.length:=QW (by have:=Xo hx.1;rwa [wpow_eq] at this)
      have l2:=QR (k:=1073741824) n0 (by have:=QN (n:=n) (k:=6) (by omega);omega)
      omega
    · rw [qN n0]
      have m0:=Int.mul_nonneg e0 n0
      have m1:=Int.mul_le_mul e2 n1 n0 (by omega)
      rw [ZY ⟨m0,by omega⟩];rfl⟩
def niK:LKeep:=⟨[0,1,6,7,8,9,10],[(0,2),(5,2),(9,2),(10,2)],11⟩
def niSt(n:Int)(b:Bool)(P S0 S1:Nat→Fx)(a:Nat×Bool):List (Nat×Tv)×List (Nat×Nat×At) :=
  ([(0,.sv (.one (.int .u64 n))),(1,bT b),(6,.sv (.one (.ptr 0 0))),(7,.sv (.one (.ptr 5 0))),(8,.sv (.one (.ptr 9 0))),(9,.sv (.one (.ptr 10 0))),(10,.sv (.one (.int .u64 (2*(a.1:Nat)+3))))],
   [(0,0,.words true []),(0,1,.int .u64 0)] ++ (clX 5 0 false (fw (P a.1)) ++ (clX 9 0 false (fw (S0 (a.1+1))) ++ clX 10 0 a.2 (fw (S1 (a.1+1))))))
def niInvL(n:Int)(b:Bool)(P S0 S1:Nat→Fx)(K:Nat):Nat→Option LInv:=invAt 4 (.rel niK (Nat×Bool) (niSt n b P S0 S1) (fun a=>a.1≤K) (fun a=>K-a.1))
theorem niInv_vc(n q:Int)(b:Bool)(P S0 S1:Nat→Fx)(K:Nat)(Q:Tv→Prop):qH ⟨tys3,sNi⟩ (niInvL n b P S0 S1 K) 0 Tryz.f163 [.one (.int .u64 n),.one (.bool b),.one (.int .i64 q)] Q=(((0:Int)≤q∧q≤16777216)∧((0:Int)≤(fw (Fx.mk ((2:Int)^Int.toNat q) 0)).e∧(fw (Fx.mk ((2:Int)^Int.toNat q) 0)).e≤1099511627776∧(0:Int)<n∧n≤4294967296)∧true=true∧(∃ (a:Nat×Bool),a.fst≤K∧Sg.mk [(0,Tv.sv (Sv.one (At.int .u64 n))),(1,bT b),(6,Tv.sv (Sv.one (At.ptr 0 0))),(7,Tv.sv (Sv.one (At.ptr ((1:Nat)+4) 0))),(8,Tv.sv (Sv.one (At.ptr ((7:Nat)+2) 0))),(9,Tv.sv (Sv.one (At.ptr ((7:Nat)+3) 0))),(10,Tv.sv (Sv.one (At.int .u64 3)))] [(0,0,At.words true []),(0,1,At.int .u64 0),(5,0,At.words false (fw (qE (Fw.f (fw (Fx.mk ((2:Int)^Int.toNat q) 0))) n)).xs),(5,1,At.int .u64 (fw (qE (Fw.f (fw (Fx.mk ((2:Int)^Int.toNat q) 0))) n)).e),(9,0,At.words false (fw (qE (Fw.f (fw (Fx.mk ((2:Int)^Int.toNat q) 0))) n)).xs),(9,1,At.int .u64 (fw (qE (Fw.f (fw (Fx.mk ((2:Int)^Int.toNat q) 0))) n)).e),(10,0,At.words true []),(10,1,At.int .u64 0)] 11=LKeep.at niK (niSt n b P S0 S1 a))∧∀ (a:Nat×Bool),a.fst≤K→br (ltI 0 (↑(List.length (fw (P a.fst)).xs):Int)) (((0:Int)≤(fw (P a.fst)).e∧(fw (P a.fst)).e≤1099511627776∧(0:Int)<n∧n≤4294967296)∧((0:Int)≤(fw (qE (Fw.f (fw (P a.fst))) n)).e∧(fw (qE (Fw.f (fw (P a.fst))) n)).e≤1099511627776∧(0:Int)<n∧n≤4294967296)∧((0:Int)≤(fw (qE (Fw.f (fw (qE (Fw.f (fw (P a.fst))) n))) n)).e∧(fw (qE (Fw.f (fw (qE (Fw.f (fw (P a.fst))) n))) n)).e≤1099511627776∧(0:Int)<2*(↑a.fst:Int)+3∧(2:Int)*(↑a.fst:Int)+3≤4294967296)∧br b ((4:Int)≠0∧br (eqI (Int.tmod ((2:Int)*(↑a.fst:Int)+3) 4) 3) ((Fw.Ok (fw (S1 (a.fst+1)))∧Fw.Ok (fw (qE (Fw.f (fw (qE (Fw.f (fw (qE (Fw.f (fw (P a.fst))) n))) n))) ((2:Int)*(↑a.fst:Int)+3))))∧true=true∧∃ (a':Nat×Bool),a'.fst≤K∧Sg.mk [(0,Tv.sv (Sv.one (At.int .u64 n))),(1,bT b),(6,Tv.sv (Sv.one (At.ptr 0 0))),(7,Tv.sv (Sv.one (At.ptr 5 0))),(8,Tv.sv (Sv.one (At.ptr 9 0))),(9,Tv.sv (Sv.one (At.ptr 10 0))),(10,Tv.sv (Sv.one (At.int .u64 (IntKind.wrap IntKind.u64 ((2:Int)*(↑a.fst:Int)+3+2)))))] [(0,0,At.words true []),(0,1,At.int .u64 0),(5,0,At.words false (fw (qE (Fw.f (fw (qE (Fw.f (fw (P a.fst))) n))) n)).xs),(5,1,At.int .u64 (fw (qE (Fw.f (fw (qE (Fw.f (fw (P a.fst))) n))) n)).e),(9,0,At.words false (fw (S0 (a.fst+1))).xs),(9,1,At.int .u64 (fw (S0 (a.fst+1))).e),(10,0,At.words false (fw (YY (Fw.f (fw (S1 (a.fst+1)))) (Fw.f (fw (qE (Fw.f (fw (qE (Fw.f (fw (qE (Fw.f (fw (P a.fst))) n))) n))) ((2:Int)*(↑a.fst:Int)+3)))))).xs),(10,1,At.int .u64 (fw (YY (Fw.f (fw (S1 (a.fst+1)))) (Fw.f (fw (qE (Fw.f (fw (qE (Fw.f (fw (qE (Fw.f (fw (P a.fst))) n))) n))) ((2:Int)*(↑a.fst:Int)+3)))))).e)] 11=LKeep.at niK (niSt n b P S0 S1 a')∧K-a'.fst<K-a.fst) ((Fw.Ok (fw (S0 (a.fst+1)))∧Fw.Ok (fw (qE (Fw.f (fw (qE (Fw.f (fw (qE (Fw.f (fw (P a.fst))) n))) n))) ((2:Int)*(↑a.fst:Int)+3))))∧true=true∧∃ (a':Nat×Bool),a'.fst≤K∧Sg.mk [(0,Tv.sv (Sv.one (At.int .u64 n))),(1,bT b),(6,Tv.sv (Sv.one (At.ptr 0 0))),(7,Tv.sv (Sv.one (At.ptr 5 0))),(8,Tv.sv (Sv.one (At.ptr 9 0))),(9,Tv.sv (Sv.one (At.ptr 10 0))),(10,Tv.sv (Sv.one (At.int .u64 (IntKind.wrap IntKind.u64 ((2:Int)*(↑a.fst:Int)+3+2)))))] [(0,0,At.words true []),(0,1,At.int .u64 0),(5,0,At.words false (fw (qE (Fw.f (fw (qE (Fw.f (fw (P a.fst))) n))) n)).xs),(5,1,At.int .u64 (fw (qE (Fw.f (fw (qE (Fw.f (fw (P a.fst))) n))) n)).e),(9,0,At.words false (fw (YY (Fw.f (fw (S0 (a.fst+1)))) (Fw.f (fw (qE (Fw.f (fw (qE (Fw.f (fw (qE (Fw.f (fw (P a.fst))) n))) n))) ((2:Int)*(↑a.fst:Int)+3)))))).xs),(9,1,At.int .u64 (fw (YY (Fw.f (fw (S0 (a.fst+1)))) (Fw.f (fw (qE (Fw.f (fw (qE (Fw.f (fw (qE (Fw.f (fw (P a.fst))) n))) n))) ((2:Int)*(↑a.fst:Int)+3)))))).e),(10,0,At.words a.snd (fw (S1 (a.fst+1))).xs),(10,1,At.int .u64 (fw (S1 (a.fst+1))).e)] 11=LKeep.at niK (niSt n b P S0 S1 a')∧K-a'.fst<K-a.fst)) ((Fw.Ok (fw (S0 (a.fst+1)))∧Fw.Ok (fw (qE (Fw.f (fw (qE (Fw.f (fw (qE (Fw.f (fw (P a.fst))) n))) n))) ((2:Int)*(↑a.fst:Int)+3))))∧true=true∧∃ (a':Nat×Bool),a'.fst≤K∧Sg.mk [(0,Tv.sv (Sv.one (At.int .u64 n))),(1,bT b),(6,Tv.sv (Sv.one (At.ptr 0 0))),(7,Tv.sv (Sv.one (At.ptr 5 0))),(8,Tv.sv (Sv.one (At.ptr 9 0))),(9,Tv.sv (Sv.one (At.ptr 10 0))),(10,Tv.sv (Sv.one (At.int .u64 (IntKind.wrap IntKind.u64 ((2:Int)*(↑a.fst:Int)+3+2)))))] [(0,0,At.words true []),(0,1,At.int .u64 0),(5,0,At.words false (fw (qE (Fw.f (fw (qE (Fw.f (fw (P a.fst))) n))) n)).xs),(5,1,At.int .u64 (fw (qE (Fw.f (fw (qE (Fw.f (fw (P a.fst))) n))) n)).e),(9,0,At.words false (fw (YY (Fw.f (fw (S0 (a.fst+1)))) (Fw.f (fw (qE (Fw.f (fw (qE (Fw.f (fw (qE (Fw.f (fw (P a.fst))) n))) n))) ((2:Int)*(↑a.fst:Int)+3)))))).xs),(9,1,At.int .u64 (fw (YY (Fw.f (fw (S0 (a.fst+1)))) (Fw.f (fw (qE (Fw.f (fw (qE (Fw.f (fw (qE (Fw.f (fw (P a.fst))) n))) n))) ((2:Int)*(↑a.fst:Int)+3)))))).e),(10,0,At.words a.snd (fw (S1 (a.fst+1))).xs),(10,1,At.int .u64 (fw (S1 (a.fst+1))).e)] 11=LKeep.at niK (niSt n b P S0 S1 a')∧K-a'.fst<K-a.fst)) ((Fw.Ok (Fw.mk (fw (S0 (a.fst+1))).xs (IntKind.wrap IntKind.u64 ((fw (S0 (a.fst+1))).e+4)))∧Fw.Ok (Fw.mk (fw (S1 (a.fst+1))).xs (IntKind.wrap IntKind.u64 ((fw (S1 (a.fst+1))).e+4)))∧(Fw.f (Fw.mk (fw (S1 (a.fst+1))).xs (IntKind.wrap IntKind.u64 ((fw (S1 (a.fst+1))).e+4)))).a+(Fw.f (Fw.mk (fw (S1 (a.fst+1))).xs (IntKind.wrap IntKind.u64 ((fw (S1 (a.fst+1))).e+4)))).e≤(Fw.f (Fw.mk (fw (S0 (a.fst+1))).xs (IntKind.wrap IntKind.u64 ((fw (S0 (a.fst+1))).e+4)))).a)∧Q (Tv.sv (Sv.agg (fwL false (fw (subF (Fw.f (Fw.mk (fw (S0 (a.fst+1))).xs (IntKind.wrap IntKind.u64 ((fw (S0 (a.fst+1))).e+4)))) (Fw.f (Fw.mk (fw (S1 (a.fst+1))).xs (IntKind.wrap IntKind.u64 ((fw (S1 (a.fst+1))).e+4))))))))))):=by kernel_rfl
section
variable {n w:Int} (h:InvOk n w)
include h
theorem refP_le(k:Nat):0≤(ZU n w k).a∧(ZU n w k).a≤2^w.toNat:=by
  have a0:=(YL h k).a0
  have s:=refP_small h k
  have p:=two_pow_pos k
  have m:=imL (show (1:Int)≤2^k by omega) a0
  exact ⟨a0,by omega⟩
theorem refP_ok(k:Nat):(ZU n w k).Ok:=by
  have a:=refP_le h k
  have e:=refP_e h k
  exact Xx h a.1 (by omega) (by omega) (by omega)
theorem refT_ok(k:Nat):(Yx n w k).Ok:=by
  have a:=refP_le h k
  have b:=refT_le h k
  have c:=(refT_in h k).a0
  have e:=refT_e h k
  exact Xx h c (by omega) (by omega) (by omega)
theorem refM_ok(b:Nat){k:Nat}(hk:(k:Int)≤w+2):(SmT (Yx n w) b k).Ok∧(SmT (Yx n w) b k).e≤131080:=by
  have a:=smR_a h b k
  have p0:=(YL h k).a0
  have q:=refP_le h 0
  have e:=smR_e h b k
  have w1:=h.w1
  exact ⟨Xx h a.1 (by omega) e.1 (by omega),by omega⟩
end
def niInv:qU:=qF [.i .u64,.b,.i .i64] fun (n:Int) (b:Bool) (q:Int)=>(some (b=true∧InvOk n q),fxT (refS n q))
theorem niInv_ok:SpecOk Tryz.prog 163 niInv :=
  zA (qO QM sNi_ok) mixed Tryz.func163 rfl (by decide) (by decide) fun (n:Int) _ (b:Bool) _ (q:Int) _ hp=>by
    obtain ⟨rfl,h⟩:b=true∧InvOk n q:=hp
    refine ⟨niInvL n true (ZU n q) (SmT (Yx n q) 0) (SmT (Yx n q) 1) (refK n q),0,?_⟩
    show qH _ _ _ _ _ (fun t=>t=fxT (refS n q)∨fgT t=fxT (refS n q))
    refine (niInv_vc n q true (ZU n q) (SmT (Yx n q) 0) (SmT (Yx n q) 1) (refK n q) _).mpr ?_
    have n0:=h.n0
    have n1:=h.n1
    have w0:=h.w0
    have w1:=h.w1
    have p:=two_pow_pos q.toNat
    obtain ⟨k2,k3,k4⟩:=refK_spec h
    have ew:∀ z:Fx,(fw z).e=z.e:=fun _=>rfl
    have x1:(fw (⟨2^q.toNat,0⟩:Fx)).f=⟨2^q.toNat,0⟩:=XD (by show (0:Int)≤2^q.toNat;omega)
    have xs0:fw (⟨0,0⟩:Fx)=⟨[],0⟩:=by show (⟨ws 0,0⟩:Fw)=_;rw [Zk]
    have S01:SmT (Yx n q) 0 (0+1)=ZU n q 0:=by
      show YY ⟨0,0⟩ (ZU n q 0)=_
      show (⟨0+_,0+_⟩:Fx)=_
      rw [Int.zero_add,Int.zero_add]
    have S11:SmT (Yx n q) 1 (0+1)=⟨0,0⟩:=rfl
    rw [x1,ew]
    refine ⟨⟨by omega,by omega⟩,⟨Int.le_refl _,by show (0:Int)≤_;omega,by omega,by omega⟩,rfl,⟨(0,true),Nat.zero_le _,?_⟩,fun a ha=>?_⟩
    · unfold LKeep.at niSt
      dsimp only
      rw [S01,S11,xs0];rfl
    · obtain ⟨k,nb⟩:=a
      have ha:k≤refK n q:=ha
      have oP:=refP_ok h k
      have eP:=refP_e h k
      have hl:ltI 0 ((fw (ZU n q k)).xs.length:Nat)=decide ((ZU n q k).a≠0):=YV oP.1
      have fP:(fw (ZU n q k)).f=ZU n q k:=XD oP.1
      have z1:=shortF_e0 (d:=n) oP.1 (show 0≤(ZU n q k).e by omega) (by omega)
      have f1:(fw (qE (ZU n q k) n)).f=qE (ZU n q k) n:=XD z1.1
      have eP1:qE (qE (ZU n q k) n) n=ZU n q (k+1):=rfl
      have oP1:=refP_ok h (k+1)
      have ee1:=refP_e h (k+1)
      have f2:(fw (ZU n q (k+1))).f=ZU n q (k+1):=XD oP1.1
      have eT:qE (ZU n q (k+1)) (2*((k:Nat):Int)+3)=Yx n q (k+1):=by
        show _=qE (ZU n q (k+1)) (2*((k+1:Nat):Int)+1)
        congr 1
      have oT:=refT_ok h (k+1)
      have fT:(fw (Yx n q (k+1))).f=Yx n q (k+1):=XD oT.1
      have wk:IntKind.u64.wrap (2*(k:Int)+3+2)=2*((k+1:Nat):Int)+3:=by rw [ZY ⟨by omega,by omega⟩];omega
      have o0:=refM_ok h 0 (k:=k+1) (by omega)
      have o1:=refM_ok h 1 (k:=k+1) (by omega)
      have m0:(fw (SmT (Yx n q) 0 (k+1))).f=SmT (Yx n q) 0 (k+1):=XD o0.1.1
      have m1:(fw (SmT (Yx n q) 1 (k+1))).f=SmT (Yx n q) 1 (k+1):=XD o1.1.1
      show br (ltI 0 ((fw (ZU n q k)).xs.length:Nat)) _ _
      rw [hl]
      refine qB (fun hc=>?_) fun hc=>?_
      · have hne:(ZU n q k).a≠0:=of_decide_eq_true hc
        have hkK:k<refK n q:=by
          rcases Nat.lt_or_ge k (refK n q) with c | c
          · exact c
          · have:k=refK n q:=by omega
            rw [this] at hne;exact absurd k3 hne
        show _∧_∧_∧br true _ _
        dsimp only
        rw [fP,f1,eP1,f2,eT,fT,m0,m1,wk,ew,ew,ew]
        have tm:Int.tmod (2*(k:Int)+3) 4=(2*(k:Int)+3) % 4:=Int.tmod_eq_emod_of_nonneg (by omega)
        refine ⟨⟨by omega,by omega,by omega,by omega⟩,⟨by omega,by omega,by omega,by omega⟩,⟨by omega,by omega,by omega,by omega⟩,qB (fun _=>⟨by decide,qB (fun h3=>⟨⟨o1.1.w,oT.w⟩,rfl,(k+1,false),hkK,?_,by show refK n q-(k+1)<refK n q-k;omega⟩) fun h3=>⟨⟨o0.1.w,oT.w⟩,rfl,(k+1,nb),hkK,?_,by show refK n q-(k+1)<refK n q-k;omega⟩⟩) fun h3=>by cases h3⟩
        · have h3:=zX.1 h3
          rw [tm] at h3
          have s1:SmT (Yx n q) 1 (k+1+1)=YY (SmT (Yx n q) 1 (k+1)) (Yx n q (k+1)):=if_pos (by omega)
          have s0:SmT (Yx n q) 0 (k+1+1)=SmT (Yx n q) 0 (k+1):=if_neg (by omega)
          unfold LKeep.at niSt
          dsimp only
          rw [s1,s0];rfl
        · have h3:=qR.1 h3
          rw [tm] at h3
          have s1:SmT (Yx n q) 1 (k+1+1)=SmT (Yx n q) 1 (k+1):=if_neg (by omega)
          have s0:SmT (Yx n q) 0 (k+1+1)=YY (SmT (Yx n q) 0 (k+1)) (Yx n q (k+1)):=if_pos (by omega)
          unfold LKeep.at niSt
          dsimp only
          rw [s1,s0];rfl
      · have hz:(ZU n q k).a=0:=by have:=of_decide_eq_false hc;omega
        have hkK:k=refK n q:=by
          rcases Nat.lt_or_ge k (refK n q) with c | c
          · exact absurd hz (k4 k c)
          · omega
        dsimp only
        have wd:∀ b,(SmT (Yx n q) b (k+1)).Ok∧(SmT (Yx n q) b (k+1)).e≤131080→(⟨(fw (SmT (Yx n q) b (k+1))).xs,IntKind.u64.wrap ((fw (SmT (Yx n q) b (k+1))).e+4)⟩:Fw)=fw (zN (SmT (Yx n q) b (k+1)) 4):=fun b o=>by
          rw [ew,ZY ⟨by have:=o.1.2.2.1;omega,by have:=o.2;omega⟩];rfl
        have ow:∀ b,(SmT (Yx n q) b (k+1)).Ok∧(SmT (Yx n q) b (k+1)).e≤131080→(zN (SmT (Yx n q) b (k+1)) 4).Ok:=fun b o=>⟨o.1.1,o.1.2.1,by show 0≤_+4;have:=o.1.2.2.1;omega,by show _+4≤_;have:=o.2;omega⟩
        rw [wd 0 o0,wd 1 o1,XD (ow 0 o0).1,XD (ow 1 o1).1]
        have bd:=refS_bd h
        have eS:refS n q=subF (zN (SmT (Yx n q) 0 (k+1)) 4) (zN (SmT (Yx n q) 1 (k+1)) 4):=by rw [hkK];rfl
        have ea:(refS n q).a=(zN (SmT (Yx n q) 0 (k+1)) 4).a-((zN (SmT (Yx n q) 1 (k+1)) 4).a+(zN (SmT (Yx n q) 1 (k+1)) 4).e):=by rw [eS];rfl
        refine ⟨⟨(ow 0 o0).w,(ow 1 o1).w,by omega⟩,.inl ?_⟩
        rw [eS]
theorem refS_ok{n w t:Int}(h:InvOk n w)(t0:1≤t)(t1:t≤64):(QH (refS n w) t).Ok∧(refS n w).Ok∧(refS n w).e≤549755813888:=by
  have g:=refS_bd h
  have w0:=h.w0
  have w1:=h.w1
  have q:=refP_le h 0
  have a0:=Int.mul_nonneg g.1 (show 0≤t by omega)
  have a1:=Int.mul_le_mul (show (refS n w).a≤2*2^w.toNat by omega) t1 (by omega) (by omega)
  have e0:=Int.mul_nonneg g.2.2.1 (show 0≤t by omega)
  have e1:=Int.mul_le_mul g.2.2.2.1 t1 (by omega) (by omega)
  have b:blen ((refS n w).a*t)≤w.toNat+7+1:=QN (by
    rw [show (2:Int)^(w.toNat+7)=2^w.toNat*128 by rw [Int.pow_add];rfl];omega)
  exact ⟨⟨a0,by show blen ((refS n w).a*t)≤_;omega,e0,by show (refS n w).e*t≤_;omega⟩,Xx h g.1 (by omega) g.2.2.1 (by omega),by omega⟩
theorem piR_gap{w:Int}(w0:32≤w)(w1:w≤65536):(QH (refS 239 w) 4).a+(QH (refS 239 w) 4).e≤(QH (refS 5 w) 16).a:=by
  have h:=(piR_e w0 w1).1
  have e1:(piR w).a=(QH (refS 5 w) 16).a-((QH (refS 239 w) 4).a+(QH (refS 239 w) 4).e):=rfl
  omega
theorem piR_ok{w:Int}(w0:32≤w)(w1:w≤65536):(piR w).Ok:=by
  obtain ⟨a0,e0,e1,a1⟩:=piR_e w0 w1
  have b:blen (piR w).a≤w.toNat+5+1:=QN (by
    rw [show (2:Int)^(w.toNat+5)=2^w.toNat*32 by rw [Int.pow_add];rfl];omega)
  exact ⟨a0,by omega,e0,by omega⟩
def sNp(fS:Int→Int→Fx)(pr:Int→Int→Prop):List (FuncId×qU):=[(163,qF [.i .u64,.b,.i .i64] fun (n:Int) (b:Bool) (q:Int)=>(some (b=true∧pr n q),fxT (fS n q))),(162,niTimes),(161,niSub)]
theorem sNp_ok:SpecsOk Tryz.prog (sNp refS InvOk):=⟨niInv_ok,niTimes_ok,niSub_ok,trivial⟩
theorem niPi_vc(q:Int)(fS:Int→Int→Fx)(pr:Int→Int→Prop)(Q:Tv→Prop):qH ⟨tys3,sNp fS pr⟩ (fun _=>none) 0 Tryz.f131 [.one (.int .i64 q)] Q=((true=true∧pr 5 q)∧(Fw.Ok (fw (fS 5 q))∧(fw (fS 5 q)).e≤549755813888∧(0:Int)≤16∧(16:Int)≤64)∧(true=true∧pr 239 q)∧(Fw.Ok (fw (fS 239 q))∧(fw (fS 239 q)).e≤549755813888∧(0:Int)≤4∧(4:Int)≤64)∧(Fw.Ok (fw (QH (Fw.f (fw (fS 5 q))) 16))∧Fw.Ok (fw (QH (Fw.f (fw (fS 239 q))) 4))∧(Fw.f (fw (QH (Fw.f (fw (fS 239 q))) 4))).a+(Fw.f (fw (QH (Fw.f (fw (fS 239 q))) 4))).e≤(Fw.f (fw (QH (Fw.f (fw (fS 5 q))) 16))).a)∧Q (Tv.sv (Sv.agg (fwL false (fw (subF (Fw.f (fw (QH (Fw.f (fw (fS 5 q))) 16))) (Fw.f (fw (QH (Fw.f (fw (fS 239 q))) 4))))))))):=by kernel_rfl
def niPi:qU:=qF [.i .i64] fun (q:Int)=>(some (32≤q∧q≤65536),fxT (piR q))
theorem niPi_ok:SpecOk Tryz.prog 131 niPi :=
  zA (qO QM sNp_ok) mixed Tryz.func131 rfl (by decide) (by decide) fun (q:Int) _ hp=>⟨fun _=>none,0,by
    obtain ⟨w0,w1⟩:32≤q∧q≤65536:=hp
    have h5:InvOk 5 q:=⟨by omega,by omega,w0,w1⟩
    have h2:InvOk 239 q:=⟨by omega,by omega,w0,w1⟩
    obtain ⟨o5,p5,l5⟩:=refS_ok h5 (t:=16) (by omega) (by omega)
    obtain ⟨o2,p2',l2⟩:=refS_ok h2 (t:=4) (by omega) (by omega)
    show qH _ _ _ _ _ (fun t=>t=fxT (piR q)∨fgT t=fxT (piR q))
    refine (niPi_vc q refS InvOk _).mpr ?_
    rw [XD p5.1,XD p2'.1,XD o5.1,XD o2.1]
    exact ⟨⟨rfl,h5⟩,⟨p5.w,l5,by omega,by omega⟩,⟨rfl,h2⟩,⟨p2'.w,l2,by omega,by omega⟩,⟨o5.w,o2.w,piR_gap w0 w1⟩,.inl rfl⟩⟩
def sHp(fP:Int→Fx)(pr:Int→Prop):List (FuncId×qU):=[(131,qF [.i .i64] fun (q:Int)=>(some (pr q),fxT (fP q))),(130,niIval)]
theorem sHp_ok:SpecsOk Tryz.prog (sHp piR (fun q=>32≤q∧q≤65536)):=⟨niPi_ok,niIval_ok,trivial⟩
theorem hPi_vc(w:Int)(fP:Int→Fx)(pr:Int→Prop)(Q:Tv→Prop):qH ⟨tys3,sHp fP pr⟩ (fun _=>none) 0 Tryz.f87 [.one (.int .i64 w)] Q=(pr w∧(Fw.Ok (fw (fP w))∧(0:Int)≤w∧w≤16777216)∧Q (Tv.sv (Sv.agg (ivL true (ivF (Fw.f (fw (fP w))) w))))):=by kernel_rfl
def hPi:qU:=qF [.i .i64] fun (w:Int)=>(some (32≤w∧w≤65536),vT (YZ w))
theorem hPi_ok:SpecOk Tryz.prog 87 hPi :=
  qG (qO QM sHp_ok) mixed Tryz.func87 rfl (by decide) (by decide) fun (w:Int) _ hp=>⟨fun _=>none,0,by
    obtain ⟨w0,w1⟩:32≤w∧w≤65536:=hp
    have o:=piR_ok w0 w1
    show qH _ _ _ _ _ (fun t=>t=vT (YZ w))
    refine (hPi_vc w piR (fun q=>32≤q∧q≤65536) _).mpr ?_
    rw [XD o.1]
    exact ⟨⟨w0,w1⟩,⟨o.w,by omega,by omega⟩,rfl⟩⟩
def sQh1:List (FuncId×qU):=[(88,hNear),(133,hBy4),(49,gDiv),(27,gLess)] ++ sG3
theorem sQh1_ok:SpecsOk Tryz.prog sQh1:=⟨hNear_ok,hBy4_ok,gDiv_ok,gLess_ok,sG3_ok⟩
def sQh2(fp:Int→Vx)(pr:Int→Prop):List (FuncId×qU):=(87,qF [.i .i64] fun (w:Int)=>(some (pr w),vT (fp w))) :: sQh1
theorem sQh2_ok:SpecsOk Tryz.prog (sQh2 YZ (fun w=>32≤w∧w≤65536)):=⟨hPi_ok,sQh1_ok⟩
def refH(w:Int):Vx:=zE (YZ w) (-1)
theorem refH_hf{w:Int}(w0:32≤w)(w1:w≤65536):HfIv (p2 (23-w)/2) (refH w):=(refPi_iv w0 w1).half
theorem refPi_bd{w:Int}(w0:64≤w)(w1:w≤65536):(YZ w).Bd w 7:=by
  obtain ⟨a0,e0,e1,a1⟩:=piR_e (w:=w) (by omega) (by omega)
  exact ivF_bd w0 w1 a0 e0 e1 a1
def tryH(x:Dx)(p w:Int):Int×Vx×Bool:=if sureW (refH w) x w=true then (by4I (nW (refH w) x w),zY (refH w) x w,Qj (zY (refH w) x w) p) else (0,zeroIv,false)
def hWith:qU:=qF [.d,.i .i64,.i .i64] fun (x:Dx) (p:Int) (w:Int)=>(some (inX x∧64≤w∧w≤65536),.tup [.one (.int .i64 (tryH x p w).1),.agg (ivL false (tryH x p w).2.1),.one (.bool (tryH x p w).2.2)])
theorem hWith_vc(x:Dx)(p w:Int)(fp:Int→Vx)(pr:Int→Prop)(Q:Tv→Prop):qH ⟨tys2,sQh2 fp pr⟩ (fun _=>none) 0 Tryz.f97 [.agg (dyL false x),.one (.int .i64 p),.one (.int .i64 w)] Q=(pr w∧(eB 2305843009213693952 (fp w).lo∧eB 2305843009213693952 (fp w).hi∧(-2305843009213693952:Int)≤(-1)∧(-1:Int)≤2305843009213693952)∧eB 4611686018427387904 x∧(Vx.Sm 16777216 (qD x)∧Vx.Sm 16777216 (zE (fp w) (-1))∧Dx.m (zE (fp w) (-1)).lo≠0∧Dx.m (zE (fp w) (-1)).hi≠0∧(1:Int)≤w∧w≤16777216)∧true=true∧Dx.Sm 268435456 (Zx (qD x) (zE (fp w) (-1)) w).lo∧Dx.Sm 268435456 (Zx (qD x) (zE (fp w) (-1)) w).hi∧true=true∧br (!sameD (Qy (Zx (qD x) (zE (fp w) (-1)) w).lo) (Qy (Zx (qD x) (zE (fp w) (-1)) w).hi)) (Q (Tv.tup [Sv.one (At.int .i64 0),Sv.agg [At.bool false,At.words true [],At.int .i64 0,At.bool false,At.words true [],At.int .i64 0],Sv.one (At.bool false)])) (eB 4611686018427387904 x∧eB 4611686018427387904 (Qy (Zx (qD x) (zE (fp w) (-1)) w).lo)∧inR (w+64)∧(Vx.Sm 268435456 (qD (Qy (Zx (qD x) (zE (fp w) (-1)) w).lo))∧Vx.Sm 268435456 (zE (fp w) (-1))∧(0:Int)≤w+64∧w+64≤1099511627776)∧(Vx.Sm 134217728 (qD x)∧Vx.Sm 134217728 (qK (qD (Qy (Zx (qD x) (zE (fp w) (-1)) w).lo)) (zE (fp w) (-1)) (w+64))∧(0:Int)≤w∧w≤1099511627776)∧true=true∧(OneF (Qy (Zx (qD x) (zE (fp w) (-1)) w).lo)∧(0:Int)≤(Qy (Zx (qD x) (zE (fp w) (-1)) w).lo).e)∧true=true∧Q (Tv.tup [Sv.one (At.int .i64 (by4I (Qy (Zx (qD x) (zE (fp w) (-1)) w).lo))),Sv.agg (ivL true (lessV (qD x) (qK (qD (Qy (Zx (qD x) (zE (fp w) (-1)) w).lo)) (zE (fp w) (-1)) (w+64)) w)),Sv.one (At.bool (Qj (lessV (qD x) (qK (qD (Qy (Zx (qD x) (zE (fp w) (-1)) w).lo)) (zE (fp w) (-1)) (w+64)) w) p))]))):=by kernel_rfl
theorem sure_same{h:Vx}{x:Dx}{w:Int}:sameD (nW h x w) (Qy (quoW h x w).hi)=sureW h x w:=by
  have a:OneF (nW h x w):=nearD_f
  have b:OneF (Qy (quoW h x w).hi):=nearD_f
  rw [Bool.eq_iff_iff,same_iff a b]
  unfold sureW
  rw [zX,cmpD_eq0]
theorem half_sizes{d:Rat}{h:Vx}(hf:HfIv d h){w:Int}(w0:8≤w)(w1:w≤65536)(hb:h.Bd (w+65) 8){x:Dx}(hx:0≤x.m)(hi:inX x) :
    (qD x).Bd 32768 98304∧h.Sm 131072∧(quoW h x w).Sm 26214500∧(nW h x w).Bd 0 2051∧(qK (qD (nW h x w)) h (w+64)).Bd (w+65) 2060∧(zY h x w).Bd 65602 98306:=by
  obtain ⟨bx,x1,x2⟩:=hi
  have sx:=bx.sm (N:=131072) (by omega)
  have hs:=hb.sm (N:=131072) (by omega)
  have q:=quoW_sm (w:=w) hx hf.p sx (hs.mono (by omega)) (by omega) (by omega)
  have sn:=nW_sm hf hx (w:=w) (by omega) x1 x2
  have np:0≤(nW h x w).m:=nearD_p
  have bn:(nW h x w).Bd 0 2051:=⟨by omega,by omega,Yg,by have:=sn.1;have:=sn.2.2;omega⟩
  have z1:=bx.point hx
  have zn:=bn.point np
  have zt:(qK (qD (nW h x w)) h (w+64)).Bd (0+(w+65)) (2051+8+1):=zn.times (zJ _) hf.p (by omega) hb
  have zr:(zY h x w).Bd 65602 98306:=(z1.mono (L':=65602) (T':=98304) (by omega) (by omega)).less (zJ x) (Q9 _ _) (by omega) (zt.mono (by omega) (by omega))
  exact ⟨z1,hs,⟨q.1.mono (by omega),q.2.mono (by omega)⟩,bn,zt.mono (by omega) (by omega),zr⟩
theorem hWith_ok:SpecOk Tryz.prog 97 hWith :=
  zA (qO QF sQh2_ok) mixed Tryz.func97 rfl (by decide) (by decide) fun (x:Dx) hxw (p:Int) _ (w:Int) _ hp=>⟨fun _=>none,0,by
    obtain ⟨hi,w0,w1⟩:inX x∧64≤w∧w≤65536:=hp
    have hx:=Dx.Wf.m0 hxw
    show qH _ _ _ _ _ (fun t=>t = .tup [.one (.int .i64 (tryH x p w).1),.agg (ivL false (tryH x p w).2.1),.one (.bool (tryH x p w).2.2)]∨fgT t = .tup [.one (.int .i64 (tryH x p w).1),.agg (ivL false (tryH x p w).2.1),.one (.bool (tryH x p w).2.2)])
    refine (hWith_vc x p w YZ (fun w=>32≤w∧w≤65536) _).mpr ?_
    have hf:=refH_hf (w:=w) (by omega) w1
    have cb:=refPi_bd w0 w1
    have hb:(refH w).Bd (w+65) 8:=Vx.Bd.mono (cb.scale1 (refPi_iv (w:=w) (by omega) w1).p) (by omega) (by omega)
    have cs:=cb.sm (N:=131072) (by omega)
    obtain ⟨z1,hs,q,bn,zt,zr⟩:=half_sizes hf (by omega) w1 hb hx hi
    have zn:=bn.point (d:=nW (refH w) x w) nearD_p
    have sx:=hi.1.sm (N:=131072) (by omega)
    have r1:Dx.rv (refH w).lo≠0:=by have:=hf.lo;grind
    have r2:Dx.rv (refH w).hi≠0:=by have:=hf.lo;have:=hf.le;grind
    have e1:zE (YZ w) (-1)=refH w:=rfl
    have e2:Zx (qD x) (refH w) w=quoW (refH w) x w:=rfl
    have e3:Qy (quoW (refH w) x w).lo=nW (refH w) x w:=rfl
    have e4:lessV (qD x) (qK (qD (nW (refH w) x w)) (refH w) (w+64)) w=zY (refH w) x w:=rfl
    rw [e1,e2,e3,e4,sure_same]
    have n2:=bn.hi
    refine ⟨⟨by omega,w1⟩,⟨cs.1.eB (by omega),cs.2.eB (by omega),by omega,by omega⟩,sx.eB (by omega),⟨z1.sm (by omega),⟨hs.1.mono (by omega),hs.2.mono (by omega)⟩,rv_ne r1,rv_ne r2,by omega,by omega⟩,rfl,q.1.mono (by omega),q.2.mono (by omega),rfl,qB (fun hb=>.inr ?_) fun hb=>⟨sx.eB (by omega),⟨by have:=bn.lo;omega,by omega⟩,⟨by omega,by omega⟩,⟨zn.sm (by omega),⟨hs.1.mono (by omega),hs.2.mono (by omega)⟩,by omega,by omega⟩,⟨z1.sm (by omega),zt.sm (by omega),by omega,by omega⟩,rfl,⟨nearD_f,Yg⟩,rfl,.inr ?_⟩⟩
    · have:tryH x p w=(0,zeroIv,false):=by rw [tryH,if_neg (by rw [QE hb];simp)]
      rw [this];rfl
    · have:tryH x p w=(by4I (nW (refH w) x w),zY (refH w) x w,Qj (zY (refH w) x w) p):=by rw [tryH,if_pos (q9 hb)]
      rw [this];rfl⟩
def YR(x:Dx)(p:Int):Int:=if x.fitsB=true∧8≤p∧p≤3968 then (if x.m≠0∧1024≤XG (qC x) then 3 else 0) else 2
theorem hFault_vc(x:Dx)(p:Int)(Q:Tv→Prop):qH ⟨tys2,sQh1⟩ (fun _=>none) 0 Tryz.f96 [.agg (dyL false x),.one (.int .i64 p)] Q=(br (!Dx.fitsB x) (Q (iT 2)) (br (ltI p 8) (Q (iT 2)) (br (ltI 3968 p) (Q (iT 2)) (br (!Dx.zeroB x) (eB 4611686018427387904 x∧eB 2305843009213693952 (qC x)∧br (leI 1024 ((qC x).e+(↑(blen (Dx.m (qC x))):Int)-1)) (Q (iT 3)) (Q (iT 0))) (Q (iT 0)))))):=by kernel_rfl
def hFaultQ:qU:=qF [.d,.i .i64] fun (x:Dx) (p:Int)=>(none,iT (YR x p))
theorem hFault_ok:SpecOk Tryz.prog 96 hFaultQ :=
  qG (qO QF sQh1_ok) mixed Tryz.func96 rfl (by decide) (by decide) fun (x:Dx) hxw (p:Int) _ _=>⟨fun _=>none,0,by
    have hx:=Dx.Wf.m0 hxw
    show qH _ _ _ _ _ (fun t=>t=iT (YR x p))
    refine (hFault_vc x p _).mpr (qB (fun h=>?_) fun h=>qB (fun h1=>?_) fun h1=>qB (fun h2=>?_) fun h2=>qB (fun h3=>?_) fun h3=>?_)
    · rw [YR,if_neg (by rw [QE h];simp)]
    · rw [YR,if_neg (by have:=qW.1 h1;omega)]
    · rw [YR,if_neg (by have:=qW.1 h2;omega)]
    · have c:x.fitsB=true∧8≤p∧p≤3968:=⟨q9 h,by have:=qJ.1 h1;omega,by have:=qJ.1 h2;omega⟩
      have sx:=(fits_bd c.1).sm (N:=131072) (by omega)
      have sy:=((fits_bd c.1).one hx).sm (N:=131072) (by omega)
      refine ⟨sx.eB (by omega),sy.eB (by omega),qB (fun h4=>?_) fun h4=>?_⟩
      · rw [YR,if_pos c,if_pos ⟨QV.1 (QE h3),zS.1 h4⟩]
      · rw [YR,if_pos c,if_neg fun k=>Qn.1 h4 k.2]
    · have c:x.fitsB=true∧8≤p∧p≤3968:=⟨q9 h,by have:=qJ.1 h1;omega,by have:=qJ.1 h2;omega⟩
      rw [YR,if_pos c,if_neg fun k=>k.1 (QC.1 (q9 h3))]⟩
def hquL(x:Dx)(p:Int):Nat→Int→Int×Vx×Int
  | 0,_=>(0,zeroIv,6)
  | n+1,w=>if w≤16384 then (if (tryH x p w).2.2=true then ((tryH x p w).1,(tryH x p w).2.1,0) else hquL x p n (2*w)) else (0,zeroIv,6)
def Z4(x:Dx)(p:Int):Int×Vx×Int:=if YR x p≠0∨x.m=0 then (0,zeroIv,YR x p) else hquL x p 9 (max (XG (qC x)) 0+p+64)
def hquSt(x:Dx)(p:Int)(a:Nat×Int):List (Nat×Tv)×List (Nat×Nat×At) :=
  ([(1,iT p),(2,.sv (.one (.ptr 0 0))),(5,.sv (.one (.ptr 2 0))),(8,iT a.2)],dyX 0 false x ++ zvX 2)
def hquInv(x:Dx)(p:Int)(P:Nat×Int→Prop):Nat→Option LInv:=invAt 5 (.rel ⟨[1,2,5,8],[(0,3),(2,6)],3⟩ (Nat×Int) (hquSt x p) P (fun a=>a.1))
def sHq(g:Dx→Int→Int→Int×Vx×Bool)(pr:Dx→Int→Prop)(fq:Dx→Int→Int):List (FuncId×qU):=[(97,qF [.d,.i .i64,.i .i64] fun (x:Dx) (p:Int) (w:Int)=>(some (pr x w),.tup [.one (.int .i64 (g x p w).1),.agg (ivL false (g x p w).2.1),.one (.bool (g x p w).2.2)])),(96,qF [.d,.i .i64] fun (x:Dx) (p:Int)=>(none,iT (fq x p)))] ++ sQh1
theorem hQu_vc(x:Dx)(p:Int)(P:Nat×Int→Prop)(pr:Dx→Int→Prop)(fq:Dx→Int→Int)(g:Dx→Int→Int→Int×Vx×Bool)(Q:Tv→Prop):qH ⟨tys2,sHq g pr fq⟩ (hquInv x p P) 0 Tryz.f72 [.agg (dyL false x),.one (.int .i64 p)] Q=(br (neI (fq x p) 0) (Q (Tv.tup [Sv.one (At.int .i64 0),Sv.agg [At.bool false,At.words true [],At.int .i64 0,At.bool false,At.words true [],At.int .i64 0],Sv.one (At.int .i64 (fq x p))])) (br (Dx.zeroB x) (Q (Tv.tup [Sv.one (At.int .i64 0),Sv.agg [At.bool false,At.words true [],At.int .i64 0,At.bool false,At.words true [],At.int .i64 0],Sv.one (At.int .i64 (fq x p))])) (eB 4611686018427387904 x∧eB 2305843009213693952 (qC x)∧inR (maxI ((qC x).e+(↑(blen (Dx.m (qC x))):Int)-1) 0+p)∧inR (maxI ((qC x).e+(↑(blen (Dx.m (qC x))):Int)-1) 0+p+64)∧true=true∧(∃ (a:Nat×Int),P a∧Sg.mk [(1,iT p),(2,Tv.sv (Sv.one (At.ptr 0 0))),(5,Tv.sv (Sv.one (At.ptr ((0:Nat)+2) 0))),(8,iT (maxI ((qC x).e+(↑(blen (Dx.m (qC x))):Int)-1) 0+p+64))] [(0,0,At.bool x.neg),(0,1,At.words false x.xs),(0,2,At.int .i64 x.e),(2,0,At.bool false),(2,1,At.words true []),(2,2,At.int .i64 0),(2,3,At.bool false),(2,4,At.words true []),(2,5,At.int .i64 0)] 3=LKeep.at (LKeep.mk [1,(2:Nat),(5:Nat),(8:Nat)] [(0,(3:Nat)),(2,(6:Nat))] 3) (hquSt x p a))∧∀ (a:Nat×Int),P a→br (leI a.snd 16384) (pr x a.snd∧br (g x p a.snd).snd.snd (true=true∧Q (Tv.tup [Sv.one (At.int .i64 (g x p a.snd).fst),Sv.agg (ivL false (g x p a.snd).snd.fst),Sv.one (At.int .i64 0)])) (inR ((2:Int)*a.snd)∧true=true∧∃ (a':Nat×Int),P a'∧Sg.mk [(1,iT p),(2,Tv.sv (Sv.one (At.ptr 0 0))),(5,Tv.sv (Sv.one (At.ptr 2 0))),(8,iT ((2:Int)*a.snd))] [(0,0,At.bool x.neg),(0,1,At.words false x.xs),(0,2,At.int .i64 x.e),(2,0,At.bool false),(2,1,At.words true []),(2,2,At.int .i64 0),(2,3,At.bool false),(2,4,At.words true []),(2,5,At.int .i64 0)] 3=LKeep.at (LKeep.mk [1,(2:Nat),(5:Nat),(8:Nat)] [(0,(3:Nat)),(2,(6:Nat))] 3) (hquSt x p a')∧a'.fst<a.fst)) (Q (Tv.tup [Sv.one (At.int .i64 0),Sv.agg [At.bool false,At.words true [],At.int .i64 0,At.bool false,At.words true [],At.int .i64 0],Sv.one (At.int .i64 6)]))))):=by kernel_rfl
theorem sHq_ok:SpecsOk Tryz.prog (sHq tryH (fun x w=>inX x∧64≤w∧w≤65536) YR):=⟨hWith_ok,hFault_ok,sQh1_ok⟩
def hQu:qU:=qF [.d,.i .i64] fun (x:Dx) (p:Int)=>(none,quT (Z4 x p))
theorem faultQ_ok{x:Dx}{p:Int}(h:YR x p=0):x.fitsB=true∧8≤p∧p≤3968∧(x.m≠0→XG (qC x)<1024):=by
  unfold YR at h
  split at h
  · rename_i c
    refine ⟨c.1,c.2.1,c.2.2,fun h0=>?_⟩
    split at h
    · cases h
    · rename_i k
      rcases Int.lt_or_le (XG (qC x)) 1024 with l | l
      · exact l
      · exact absurd ⟨h0,l⟩ k
  · cases h
theorem inX_of{x:Dx}(hx:0≤x.m)(hf:x.fitsB=true)(ht:XG (qC x)<1024):inX x:=by
  have t:=top_lt (x:=qC x) zZ ht
  rw [Qs hx] at t
  exact ⟨fits_bd hf,t.1,t.2⟩
theorem hQu_ok:SpecOk Tryz.prog 72 hQu :=
  zA (qO QF sHq_ok) mixed Tryz.func72 rfl (by decide) (by decide) fun (x:Dx) hxw (p:Int) _ _=>by
    have hx:=Dx.Wf.m0 hxw
    obtain ⟨R,hR⟩:∃ R,R=hquL x p 9 (max (XG (qC x)) 0+p+64):=⟨_,rfl⟩
    refine ⟨hquInv x p (fun a=>hquL x p a.1 a.2=R∧64≤a.2∧a.2≤32768∧16384<a.2*2^a.1),0,?_⟩
    show qH _ _ _ _ _ (fun t=>t=quT (Z4 x p)∨fgT t=quT (Z4 x p))
    refine (hQu_vc x p _ (fun x w=>inX x∧64≤w∧w≤65536) YR tryH _).mpr (qB (fun h=>.inr ?_) fun h=>qB (fun h1=>.inr ?_) fun h1=>?_)
    · rw [Z4,if_pos (.inl (Qi.1 h))];rfl
    · rw [Z4,if_pos (.inr (QC.1 h1))];rfl
    have h:=qQ.1 h
    have h1:=QV.1 h1
    obtain ⟨c1,c2,c3,c4⟩:=faultQ_ok h
    have c4:=c4 h1
    have bx:=fits_bd c1
    have b1:=bx.lo
    have b2:=bx.hi
    have sx:=bx.sm (N:=131072) (by omega)
    have sy:=(bx.one hx).sm (N:=131072) (by omega)
    have y1:=(bx.one hx).lo
    have y2:=(bx.one hx).hi
    have te:(qC x).e+(blen (qC x).m:Int)-1=XG (qC x):=rfl
    rw [Z4,if_neg (by rintro (k | k);exact k h;exact h1 k),te,maxI_eq,←hR]
    refine ⟨sx.eB (by omega),sy.eB (by omega),⟨by omega,by omega⟩,⟨by omega,by omega⟩,rfl,⟨(9,max (XG (qC x)) 0+p+64),⟨hR.symm,by omega,by omega,by show 16384<(max (XG (qC x)) 0+p+64)*2^9;omega⟩,rfl⟩,fun a ha=>?_⟩
    obtain ⟨n,w⟩:=a
    obtain ⟨e,w0,w1,w2⟩:hquL x p n w=R∧64≤w∧w≤32768∧16384<w*2^n:=ha
    refine qB (fun h2=>⟨⟨inX_of hx c1 c4,w0,by show w≤_;omega⟩,qB (fun h3=>⟨rfl,.inr ?_⟩) fun h3=>?_⟩) fun h2=>.inr ?_
    · have h2:=zS.1 h2
      cases n with
      | zero=>rw [Int.pow_zero] at w2;omega
      | succ m =>
        rw [hquL,if_pos h2,if_pos h3] at e
        rw [←e];rfl
    · have h2:=zS.1 h2
      have h2':w≤16384:=h2
      cases n with
      | zero=>rw [Int.pow_zero] at w2;omega
      | succ m =>
        rw [hquL,if_pos h2,if_neg (by rw [show (tryH x p w).2.2=false from h3];simp)] at e
        refine ⟨⟨by show _≤2*w;omega,by show 2*w<_;omega⟩,rfl,(m,2*w),⟨e,by show 64≤2*w;omega,by show 2*w≤32768;omega,?_⟩,rfl,Nat.lt_succ_self _⟩
        show 16384<2*w*2^m
        rw [Int.pow_succ,Int.mul_comm (2^m) 2,←Int.mul_assoc,Int.mul_comm w 2] at w2;exact w2
    · have h2:=Qn.1 h2
      have h2':16384<w:=by have:¬ w≤16384:=h2;omega
      have:R=(0,zeroIv,6):=by
        rw [←e]
        cases n with
        | zero=>rfl
        | succ m=>rw [hquL,if_neg (by omega)]
      rw [this];rfl
theorem Dn.close{p:Int}{q r A:Rat}(h:Dn p q r)(hp:1≤p)(h1:-A≤q)(h2:q≤A):q-eps p*A≤r∧r≤q:=by
  have e0:=Yf p
  refine ⟨?_,h.2.1⟩
  rcases (show 0<q∨q=0∨q<0 by grind) with c | c | c
  · have r1:=(h.rel hp c).1
    have m:=rmL h2 (rlL e0)
    grind
  · subst c
    have:=h.2.2 0 (Rp.zero p) Rat.le_refl
    have m:=rmL h2 (rlL e0)
    grind
  · have r1:=h.neg.rel hp (show 0 < -q by grind)
    have m:=rmL (show -q≤A by grind) (rlL e0)
    grind
theorem Up.close{p:Int}{q r A:Rat}(h:Up p q r)(hp:1≤p)(h1:-A≤q)(h2:q≤A):q≤r∧r≤q+eps p*A:=by
  have:=h.neg.close hp (A:=A) (by grind) (by grind)
  constructor<;>grind
theorem mul_bd{x a b A:Rat}(hx1:-A≤x)(hx2:x≤A){d:Rat}(h1:a-b≤d)(h2:b-a≤d):x*a-x*b≤A*d∧x*b-x*a≤A*d:=by
  have d0:0≤d:=by grind
  have A0:0≤A:=by grind
  rcases (show 0≤x∨x≤0 by grind) with s | s
  · have m1:=rmL h1 s
    have m2:=rmL h2 s
    have m3:=rmR hx2 d0
    constructor<;>grind
  · have m1:=rmL h1 (show 0≤-x by grind)
    have m2:=rmL h2 (show 0≤-x by grind)
    have m3:=rmR (show -x≤A by grind) d0
    constructor<;>grind
theorem inv_close{a b d:Rat}(ha:3/2≤a)(hb:3/2≤b)(h1:a-b≤d)(h2:b-a≤d):a⁻¹-b⁻¹≤d∧b⁻¹-a⁻¹≤d:=by
  obtain ⟨a0,a1⟩:=inv_le1 ha
  obtain ⟨b0,b1⟩:=inv_le1 hb
  have ea:=Rat.inv_mul_cancel a (by grind)
  have eb:=Rat.inv_mul_cancel b (by grind)
  have d0:0≤d:=by grind
  have p0:=rmN (rlL a0) (rlL b0)
  have p1:a⁻¹*b⁻¹≤1:=by
    have:=rmL (show b⁻¹≤1 by grind) (rlL a0)
    grind
  have e1:a⁻¹-b⁻¹=(a⁻¹*b⁻¹)*(b-a):=by
    have x1:(a⁻¹*b⁻¹)*b=a⁻¹:=by rw [Rat.mul_assoc,eb,Rat.mul_one]
    have x2:(a⁻¹*b⁻¹)*a=b⁻¹:=by rw [Rat.mul_comm a⁻¹,Rat.mul_assoc,ea,Rat.mul_one]
    grind
  have m1:=rmL h2 p0
  have m2:=rmL h1 p0
  have m3:=rmR p1 d0
  constructor<;>grind
section
variable {d:Rat} {h:Vx} (k:HfIv d h) {x:Dx} (hx:0≤x.m) {w:Int} (hw:1≤w)
include k hx hw
omit hx hw in
theorem HfIv.d0:0≤d:=by
  have:=k.nar
  have:=k.le
  grind
theorem quoW_close{A c:Rat}(hc:InV h c)(h1:-A≤x.rv)(h2:x.rv≤A) :
    x.rv*c⁻¹-A*(d+eps w)≤(quoW h x w).lo.rv∧(quoW h x w).hi.rv≤x.rv*c⁻¹+A*(d+eps w):=by
  have A0:0≤A:=by grind
  have cl:=hc.1
  have ch:=hc.2
  have l:=k.lo
  have nr:=k.nar
  obtain ⟨⟨a,b,hcor,e1⟩,⟨a',b',hcor',e2⟩⟩:=div_at (qD x) h w
  obtain ⟨p1,p2'⟩:=Xf hx
  have le:=k.le
  have ra:∀ {a b:Dx},Cor (qD x) h a b→a.rv=x.rv∧(x.rv*b.rv⁻¹-x.rv*c⁻¹≤A*d∧x.rv*c⁻¹-x.rv*b.rv⁻¹≤A*d)∧-A≤x.rv*b.rv⁻¹∧x.rv*b.rv⁻¹≤A:=fun {a b} hcor=>by
    have hb:3/2≤b.rv∧b.rv-c≤d∧c-b.rv≤d:=by
      rcases hcor.2 with e | e<;>rw [e]<;>exact ⟨by grind,by grind,by grind⟩
    obtain ⟨i1,i2⟩:=inv_close hb.1 (show 3/2≤c by grind) hb.2.1 hb.2.2
    obtain ⟨i0,i3⟩:=inv_le1 hb.1
    refine ⟨by rcases hcor.1 with e | e<;>rw [e];exact p1;exact p2',mul_bd h1 h2 i1 i2,?_⟩
    rcases (show 0≤x.rv∨x.rv≤0 by grind) with s | s
    · have m1:=rmL (show b.rv⁻¹≤1 by grind) s
      have m0:=rmN s (rlL i0)
      constructor<;>grind
    · have m1:=rmL (show b.rv⁻¹≤1 by grind) (show 0≤-x.rv by grind)
      have m0:=rmN (show 0≤-x.rv by grind) (rlL i0)
      constructor<;>grind
  obtain ⟨r1,r2,r3,r4⟩:=ra hcor
  obtain ⟨s1,s2,s3,s4⟩:=ra hcor'
  have c1:=(hcor.best (zJ x) k.p k.off le hw).2.1
  have c2:=(hcor'.best (zJ x) k.p k.off le hw).2.2
  rw [r1] at c1
  rw [s1] at c2
  have b1:=c1.close hw r3 r4
  have b2:=c2.close hw s3 s4
  have eA:A*(d+eps w)=A*d+eps w*A:=by grind
  rw [eA]
  show _≤(Zx (qD x) h w).lo.rv∧(Zx (qD x) h w).hi.rv≤_
  rw [e1,e2]
  constructor<;>grind
theorem restW_close{A B c:Rat}(hc:InV h c)(h1:-A≤x.rv)(h2:x.rv≤A)(n1:-B≤(nI h x w:Rat))(n2:(nI h x w:Rat)≤B)(_:d≤1)(he:eps w≤1) :
    x.rv-(nI h x w:Rat)*c-(B*d+eps w*(A+8*B))≤(zY h x w).lo.rv∧(zY h x w).hi.rv≤x.rv-(nI h x w:Rat)*c+(B*d+eps w*(A+8*B)):=by
  have cl:=hc.1
  have ch:=hc.2
  have l:=k.lo
  have hi:=k.hi
  have nr:=k.nar
  have le:=k.le
  have d0:=k.d0
  have e0:=Yf w
  have B0:0≤B:=by grind
  have A0:0≤A:=by grind
  have en:(nW h x w).rv=(nI h x w:Rat):=(YK Yg).symm
  have np:0≤(nW h x w).m:=nearD_p
  obtain ⟨q1,q2⟩:=Xf np
  obtain ⟨p1,p2'⟩:=Xf hx
  obtain ⟨⟨x0,y0,hx0,hy0,g1⟩,⟨x1,y1,hx1,hy1,g2⟩⟩:=prod_at (zJ (nW h x w)) k.p
  have x0e:x0=(nI h x w:Rat):=by rcases hx0 with e | e<;>rw [e,←en];exact q1;exact q2
  have x1e:x1=(nI h x w:Rat):=by rcases hx1 with e | e<;>rw [e,←en];exact q1;exact q2
  have yb:∀ y,(y=h.lo.rv∨y=h.hi.rv)→y-c≤d∧c-y≤d∧0≤y∧y≤2:=fun y hy=>by rcases hy with e | e<;>rw [e]<;>exact ⟨by grind,by grind,by grind,by grind⟩
  obtain ⟨a1,a2,a3,a4⟩:=yb y0 hy0
  obtain ⟨b1,b2,b3,b4⟩:=yb y1 hy1
  generalize (nI h x w:Rat)=n at *
  have m0:=mul_bd n1 n2 a1 a2
  have m1:=mul_bd n1 n2 b1 b2
  have by2:∀ y,0≤y→y≤2→-(2*B)≤n*y∧n*y≤2*B:=fun y h0 h2=>by
    have:=mul_bd n1 n2 (a:=y) (b:=0) (d:=2) (by grind) (by grind)
    constructor<;>grind
  have f0:=by2 y0 a3 a4
  have f1:=by2 y1 b3 b4
  rw [x0e] at g1
  rw [x1e] at g2
  obtain ⟨t1,t2⟩:=times_best (v:=qD (nW h x w)) (u:=h) (p:=w+64) (by omega) (zJ _) k.p
  rw [g1] at t1
  rw [g2] at t2
  have u1:=t1.close (by omega) f0.1 f0.2
  have u2:=t2.close (by omega) f1.1 f1.2
  have ee:eps (w+64)≤eps w:=Qz (by omega)
  have v1:=rmR ee (show 0≤2*B by grind)
  have v2:=rmR he (show 0≤2*B by grind)
  obtain ⟨l1,l2⟩:=less_best (v:=qD x) (u:=qK (qD (nW h x w)) h (w+64)) (zJ x) (Q9 _ _) hw
  rw [p1] at l1
  rw [p2'] at l2
  have k1:=l1.close hw (A:=A+4*B) (by grind) (by grind)
  have k2:=l2.close hw (A:=A+4*B) (by grind) (by grind)
  have eE:B*d+eps w*(A+8*B)=B*d+eps w*(2*B)+eps w*(A+4*B)+eps w*(2*B):=by grind
  have z:=rmN (rlL e0) (show 0≤2*B by grind)
  rw [eE]
  show _≤(zY h x w).lo.rv∧(zY h x w).hi.rv≤_
  unfold zY
  constructor<;>grind
end
theorem p2_1(a:Int):p2 (a+1)=2*p2 a:=two_p2 a
theorem quart_ok{d:Rat}{h:Vx}(k:HfIv d h){x:Dx}(hx:0≤x.m){w:Int}(hw:1≤w)(hw2:w≤16384){A B c:Rat}(hc:InV h c)(h1:-A≤x.rv)(h2:x.rv≤A){m a p:Int}(m1:-B≤(m:Rat))(m2:(m:Rat)≤B)
    (g1:(m:Rat)-1/2+A*(d+eps w)<x.rv*c⁻¹) (g2:x.rv*c⁻¹<(m:Rat)+1/2-A*(d+eps w)) (hd:d≤1) (he:eps w≤1)
    (hr:p2 (a+1)≤x.rv-(m:Rat)*c∨x.rv-(m:Rat)*c≤-(p2 (a+1))) (p0:0≤p) (hE:2*(B*d+eps w*(A+8*B))≤p2 (a-p)) (ha0:a≤0) (ha1:-16384≤a) :
    sureW h x w=true∧nI h x w=m∧qT (zY h x w)=true∧Qj (zY h x w) p=true:=by
  have A0:0≤A:=by grind
  have d0:=k.d0
  have ep:=Yf w
  have η0:0≤A*(d+eps w):=rmN A0 (by grind)
  obtain ⟨q1,q2⟩:=quoW_close k hx hw hc h1 h2
  obtain ⟨i1,i2⟩:=quoW_in k hx hw hc
  have n1:NearI m (quoW h x w).lo.rv:=⟨by grind,by grind,fun e=>by exfalso;rcases e with e | e<;>grind⟩
  have n2:NearI m (quoW h x w).hi.rv:=⟨by grind,by grind,fun e=>by exfalso;rcases e with e | e<;>grind⟩
  have e1:nI h x w=m:=(nW_near (h:=h) (x:=x) (w:=w)).uniq n1
  have e2:YJ (Qy (quoW h x w).hi)=m:=(nearD_whole (d:=(quoW h x w).hi) (divV_p _ _ _).2).uniq n2
  have sure:sureW h x w=true:=by
    unfold sureW
    refine zX.2 (cmpD_eq0.2 ?_)
    have:(nW h x w).rv=(Qy (quoW h x w).hi).rv:=nearD_eq.2 (show YJ (nW h x w)=_ by rw [e2];exact e1)
    exact this
  obtain ⟨r1,r2⟩:=restW_close k hx hw hc h1 h2 (B:=B) (by rw [e1];exact m1) (by rw [e1];exact m2) hd he
  obtain ⟨r3,r4⟩:=rest_in k hx hw hc
  rw [e1] at r1 r2 r3 r4
  have c0:0<c:=by have:=k.lo;have:=hc.1;grind
  have c2:c≤2:=by have:=k.hi;have:=hc.2;grind
  have xc:x.rv=x.rv*c⁻¹*c:=by rw [Rat.mul_assoc,Rat.inv_mul_cancel c (by grind),Rat.mul_one]
  have up:x.rv-(m:Rat)*c≤1∧-1≤x.rv-(m:Rat)*c:=by
    have a1:=rmR (show x.rv*c⁻¹-(m:Rat)≤1/2 by grind) (rlL c0)
    have a2:=rmR (show -(1/2)≤x.rv*c⁻¹-(m:Rat) by grind) (rlL c0)
    have e:(x.rv*c⁻¹-(m:Rat))*c=x.rv-(m:Rat)*c:=by
      conv=>rhs;rw [xc]
      grind
    rw [e] at a1 a2
    constructor<;>grind
  generalize hEE:B*d+eps w*(A+8*B)=E at *
  generalize x.rv-(m:Rat)*c=ρ at *
  have pa:p2 (a-p)≤p2 a:=Qz (by omega)
  have pa1:p2 a≤1:=by have:=Qz ha0;rwa [ZX] at this
  have pp:=qL (a-p)
  rw [p2_1] at hr
  have E1:2*E≤p2 a:=by grind
  have hP:(zY h x w).P:=⟨Y8,Y8⟩
  have F:OneF (zY h x w).lo∧OneF (zY h x w).hi:=⟨YI YF,YI YF⟩
  obtain ⟨l1,l2⟩:=less_best (v:=qD x) (u:=qK (qD (nW h x w)) h (w+64)) (zJ x) (Q9 _ _) hw
  have R1:Rp w (zY h x w).lo.rv:=l1.1
  have R2:Rp w (zY h x w).hi.rv:=l2.1
  have p21:p2 1=2:=p2_one
  have fits:∀ {y:Dx},OneF y→Rp w y.rv→(p2 a≤y.rv∧y.rv≤2∨y.rv≤-(p2 a)∧-2≤y.rv)→y.fitsB=true:=fun {y} f r b=>by
    have am:=QX f.p
    have q:=qL a
    rcases b with b | b
    · have e:=am.1 (by grind)
      exact fits_rp f (A:=a) (B:=1) r (by omega) (fun _=>by rw [←e];exact b.1) (by rw [←e,p21];exact b.2) (by omega) (by omega)
    · have e:=am.2 (by grind)
      exact fits_rp f (A:=a) (B:=1) r (by omega) (fun _=>by rw [←e];grind) (by rw [←e,p21];grind) (by omega) (by omega)
  have le:(zY h x w).lo.rv≤(zY h x w).hi.rv:=by grind
  have np:p2 (a-p)=p2 (-p)*p2 a:=by rw [←Qb];congr 1;omega
  have qa:=qL a
  have qp:=qL (-p)
  rcases hr with hr | hr
  · have f1:=fits F.1 R1 (.inl ⟨by grind,by grind⟩)
    have f2:=fits F.2 R2 (.inl ⟨by grind,by grind⟩)
    have hR:=right_of f1 f2 le
    refine ⟨sure,e1,hR,narrow_of hP hR p0 (δ:=p2 (-p)) (L:=p2 a) (H:=2) (.inl ⟨qa,by grind,by grind,by grind,le,?_⟩) Rat.le_refl⟩
    have m:=rmL (show p2 a≤(zY h x w).lo.rv by grind) (rlL qp)
    grind
  · have f1:=fits F.1 R1 (.inr ⟨by grind,by grind⟩)
    have f2:=fits F.2 R2 (.inr ⟨by grind,by grind⟩)
    have hR:=right_of f1 f2 le
    refine ⟨sure,e1,hR,narrow_of hP hR p0 (δ:=p2 (-p)) (L:=p2 a) (H:=2) (.inr ⟨qa,by grind,by grind,by grind,by grind,?_⟩) Rat.le_refl⟩
    have m:=rmL (show p2 a≤-(zY h x w).hi.rv by grind) (rlL qp)
    grind
def wsK:Nat→Int→List Int
  | 0,_=>[]
  | k+1,n=>if 0<n then (n % 18446744073709551616) :: wsK k (n/18446744073709551616) else []
theorem wsK_eq:∀ {k:Nat} {n:Int},n<2^k→ws n=wsK k n
  | 0,n,h=>by rw [Zp (by simp at h;omega)];rfl
  | k+1,n,h=>by
    unfold wsK
    by_cases hp:0<n
    · have p:=two_pow_pos k
      rw [Int.pow_succ] at h
      rw [Xp hp,if_pos hp,wsK_eq (k:=k) (by omega)]
    · rw [Zp (by omega),if_neg hp]
theorem ws_K(n:Int):ws n=wsK (blen n) n:=wsK_eq (Q5 n)
def tzK:Nat→Nat→Nat
  | 0,_=>0
  | k+1,n=>if n=0 then 0 else if n % 2=1 then 0 else tzK k (n/2)+1
theorem tzK_eq:∀ {k n:Nat},n<2^k→tzn n=tzK k n
  | 0,n,h=>by
    obtain rfl:n=0:=by simp at h;omega
    unfold tzn tzK;rfl
  | k+1,n,h=>by
    rw [Nat.pow_succ] at h
    unfold tzK;rw [tzn,tzK_eq (k:=k) (n:=n/2) (by omega)]
theorem tz_K{n:Int}:tz n=tzK (blen n) n.toNat:=by
  unfold tz
  refine tzK_eq ?_
  have h:=Q5 n
  by_cases h0:0≤n
  · have:(n.toNat:Int)<((2^blen n:Nat):Int):=by rw [Int.toNat_of_nonneg h0];simpa using h
    exact_mod_cast this
  · rw [Int.toNat_of_nonpos (by omega)];exact Nat.two_pow_pos _
def mkDK(neg:Bool)(m e:Int):Dx:=if m=0 then ⟨false,[],0⟩ else
  let t:=tzK (blen m) m.toNat
  let q:=m/2^t
  ⟨neg,wsK (blen q) q,e+t⟩
theorem mkD_K(neg:Bool)(m e:Int):mkD neg m e=mkDK neg m e:=by
  unfold mkD mkDK;rw [tz_K,ws_K]
def fitsK(d:Dx):Bool:=decide ((wsK (blen d.m) d.m).length≤1024) && decide (-32768≤d.e) && decide (d.e≤32768)
def rightK(v:Vx):Bool:=fitsK v.lo && (fitsK v.hi && decide (QJ v.lo v.hi≤0))
theorem great_K(m:Int):(!Yr m)=decide ((wsK (blen m) m).length≤1024):=by
  unfold Yr;rw [←ws_K]
  by_cases h:(ws m).length≤1024
  · rw [decide_eq_true h,decide_eq_false (by omega)];rfl
  · rw [decide_eq_false h,decide_eq_true (by omega)];rfl
theorem fits_K(d:Dx):d.fitsB=fitsK d:=by unfold Dx.fitsB fitsK;rw [great_K]
theorem right_K(v:Vx):qT v=rightK v:=by unfold qT rightK;rw [fits_K,fits_K]
theorem lit_f{k e:Int}(k0:0<k)(k1:k<18446744073709551616)(h:k % 2=1):OneF ⟨false,[k],e⟩:=by
  refine ⟨false,k,e,by omega,?_⟩
  unfold mkD
  rw [if_neg (by omega),tz_odd2 h (by omega),show k/2^0=k by simp,Xp k0,show k/18446744073709551616=0 by omega,Zk,Int.emod_eq_of_lt (by omega) k1]
  simp
theorem lit_rv{k e:Int}:(⟨false,[k],e⟩:Dx).rv=(k:Rat)*p2 e:=by
  have:(⟨false,[k],e⟩:Dx).sm=k:=by show val [k]=k;rw [Qv];simp [val]
  unfold Dx.rv;rw [this]
theorem p2_v:p2 0=1∧p2 1=2∧p2 (-1)=1/2∧p2 (-2)=1/4:=by decide +kernel
theorem HfIv.mid{d:Rat}{h:Vx}(k:HfIv d h):∃ c,InV h c∧31415/20000≤c∧c≤31417/20000:=by
  have m1:=k.enc.meets piS_enc
  have m2:=piS_enc.meets k.enc
  have le:=k.le
  rcases (show (31415:Rat)/20000≤h.lo.rv∨h.lo.rv≤31415/20000 by grind) with c | c
  · exact ⟨h.lo.rv,⟨Rat.le_refl,le⟩,c,by grind⟩
  · exact ⟨31415/20000,⟨c,by grind⟩,Rat.le_refl,by decide +kernel⟩
theorem okW_of{x:Dx}{p w:Int}(h1:sureW (zW w) x w=true)(h2:qT (zY (zW w) x w)=true)(h3:Qj (zY (zW w) x w) p=true) :
    okW x p w=true∧tryP x p w=(by4I (nW (zW w) x w),zY (zW w) x w,true):=by
  have n:Q7 (zY (zW w) x w) p=true:=by
    rw [Qj,Bool.and_eq_true,Bool.and_eq_true] at h3;exact h3.2.2
  have e:tryP x p w=(by4I (nW (zW w) x w),zY (zW w) x w,true):=by unfold tryP tryW;rw [if_pos h1,n]
  exact ⟨by unfold okW;rw [e,h2];rfl,e⟩
def xVVb(f:Vx→Vx→Bool):qU:=qF [.v,.v] fun (v:Vx) (u:Vx)=>(none,bT (f v u))
def xVIb(f:Vx→Int→Bool):qU:=qF [.v,.i .i64] fun (v:Vx) (p:Int)=>(none,bT (f v p))
def xDDi(f:Dx→Dx→Int):qU:=qF [.d,.d] fun (a:Dx) (b:Dx)=>(some (a.Sm 34359738368∧b.Sm 34359738368),iT (f a b))
def wTrue:qU:=qF [] (none,bT true)
theorem sameD_refl(d:Dx):sameD d d=true:=by simp [sameD,eqI]
theorem ZB(v:Vx):sameV v v=true:=by rw [sameV,sameD_refl,sameD_refl];rfl
theorem amt_same{a b:Dx}(ha:0≤a.m)(hb:0≤b.m)(h:a.rv=b.rv):(a.m:Rat)*p2 a.e=(b.m:Rat)*p2 b.e:=by
  have x:=QX ha
  have y:=QX hb
  rcases Rat.le_total (a:=0) (b:=a.rv) with k | k
  · rw [←x.1 k,←y.1 (h ▸ k),h]
  · rw [←x.2 k,←y.2 (h ▸ k),h]
theorem Z2:(⟨false,[],0⟩:Dx).rv=0:=Ye rfl
theorem cutD_zero(p:Int)(up:Bool)(hp:0≤p):cutD ⟨false,[],0⟩ p up=⟨false,[],0⟩:=by
  have o:qC ⟨false,[],0⟩=⟨false,[],0⟩:=(oneD_f (Int.le_refl _)).zero (QC.1 ((Z9 zZ).2 ((Qs (Int.le_refl _)).trans Z2)))
  unfold cutD cutX
  rw [o,if_pos (by
    have:(blen (⟨false,[],0⟩:Dx).m:Int)=0:=by rw [show (⟨false,[],0⟩:Dx).m=0 from rfl];rfl
    omega)]
theorem trim_zero(p:Int)(hp:0≤p):qV zeroIv p=zeroIv:=by
  show (⟨cutD ⟨false,[],0⟩ p false,cutD ⟨false,[],0⟩ p true⟩:Vx)=zeroIv
  rw [cutD_zero _ _ hp,cutD_zero _ _ hp];rfl
theorem zero_right:qT zeroIv=true:=by rw [right_K];decide
theorem chk_of{d:Dx}(h:d.fitsB=true):chkD d=0:=by rw [chkD,if_pos h]
theorem fault_of{t:Dx}{p:Int}(ht:0≤t.m)(hf:t.fitsB=true)(h:Qa t)(p0:8≤p)(p1:p≤4096):ZZ t p=0:=by
  rw [ZZ,if_pos ⟨chk_of hf,p0,p1⟩,if_neg]
  intro k
  rw [cmpD_gt0,rv_int 1,rv_abs ht] at k
  have a:=QX ht
  rcases (show 0≤t.rv∨t.rv≤0 by grind) with c | c
  · have:=a.1 c;have:=h.1;grind
  · have:=a.2 c;have:=h.2;grind
theorem small_fits{n:Int}(h:n.natAbs≤16):(mkS n 0).fitsB=true:=fits_mk (N:=5) (by omega) (QW (by omega)) (by omega) (by omega) (by omega) (by omega)
theorem le_eq{a b:Rat}(h:a=b):a≤b:=h ▸ Rat.le_refl
theorem fits_neg{d:Dx}(h:OneF d)(f:d.fitsB=true):(ZO d).fitsB=true:=by
  by_cases hz:d.m=0
  · rw [h.zero hz];decide +kernel
  · have t0:=tz_odd2 (h.odd hz) h.p
    have e1:(ZO d).m=d.m:=by unfold ZO;rw [mkD_m h.p,t0];simp
    have e2:(ZO d).e=d.e:=by unfold ZO mkD;rw [if_neg hz,t0];simp
    unfold Dx.fitsB at f ⊢
    rw [e1,e2];exact f
def OneV(v:Vx):Prop:=OneF v.lo∧OneF v.hi
theorem zero_f:OneV zeroIv:=⟨⟨false,0,0,Int.le_refl _,(Zd _ _).symm⟩,⟨false,0,0,Int.le_refl _,(Zd _ _).symm⟩⟩
theorem sinS_bd{t:Rat}(t0:0<t)(t1:t≤1){a b:Rat}(h:Enc (Yt t) a b):a<t∧6*t-t*t*t<6*b:=by
  have x0:0<t*t:=Rat.mul_pos t0 t0
  have x1:t*t≤1:=Xl t1 (by grind)
  have y0:0<t*t*(t*t):=Rat.mul_pos x0 x0
  have y1:t*t*(t*t)≤t*t:=by have:=rmL x1 (rlL x0);grind
  have z1:t*t*(t*t)*(t*t)≤t*t*(t*t):=by have:=rmL x1 (rlL y0);grind
  have m1:tmf 2 (t*t) 1=t*t/6:=by simp [tmf];grind
  have m2:tmf 2 (t*t) 2=t*t*(t*t)/120:=by rw [tmf,m1];simp;grind
  have m3:tmf 2 (t*t) 3=t*t*(t*t)*(t*t)/5040:=by rw [tmf,m2];simp;grind
  have p02:parS 0 2 (t*t) 2=1:=by simp [parS,Qg,tmf];grind
  have p12:parS 1 2 (t*t) 2=t*t/6:=by simp [parS,Qg,m1];grind
  have p03:parS 0 2 (t*t) 3=1+t*t*(t*t)/120:=by simp [parS,Qg,m1,m2];simp [tmf];grind
  have p13:parS 1 2 (t*t) 3=t*t/6:=by simp [parS,Qg,m1,m2];grind
  have e1:=altS_enc (f:=2) (by omega) (rlL x0) x1 (K:=2) (r:=t*t*(t*t)/110) (by omega) (le_eq p02.symm) (le_eq p02) (le_eq p12.symm) (le_eq p12) (by rw [m2];grind)
  have e2:=altS_enc (f:=2) (by omega) (rlL x0) x1 (K:=3) (r:=t*t*(t*t)*(t*t)/4620) (by omega) (le_eq p03.symm) (le_eq p03) (le_eq p13.symm) (le_eq p13) (by rw [m3];grind)
  rw [sin_seq] at h
  have mul:∀ {a b:Rat},Enc (altS 2 (t*t)) a b→Enc (fun n=>t*altS 2 (t*t) n) (t*a) (t*b):=fun {a b} k=>by
    have l:=rmL k.self (rlL t0)
    refine Enc.mul (Enc.const t) k ?_
    rintro x y (rfl | rfl) (rfl | rfl)<;>exact ⟨by grind,by grind⟩
  have u:=h.meets (mul e1)
  have w:=(mul e2).meets h
  have q1:=Rat.mul_pos t0 (show 0<t*t/6-t*t*(t*t)/110 by grind)
  have q2:=Rat.mul_pos t0 (show 0<t*t*(t*t)/120-t*t*(t*t)*(t*t)/4620 by grind)
  exact ⟨by grind,by grind⟩
theorem cosS_bd{t:Rat}(t0:-1≤t)(t1:t≤1){a b:Rat}(h:Enc (YO t) a b):a≤1∧1-t*t/2≤b:=by
  have x0:0≤t*t:=sqr_nonneg t
  have x1:t*t≤1:=Xl t1 t0
  have y0:0≤t*t*(t*t):=rmN x0 x0
  have y1:t*t*(t*t)≤t*t:=by have:=rmL x1 x0;grind
  have z1:t*t*(t*t)*(t*t)≤t*t*(t*t):=by have:=rmL x1 y0;grind
  have m1:tmf 1 (t*t) 1=t*t/2:=by simp [tmf];grind
  have m2:tmf 1 (t*t) 2=t*t*(t*t)/24:=by rw [tmf,m1];simp;grind
  have m3:tmf 1 (t*t) 3=t*t*(t*t)*(t*t)/720:=by rw [tmf,m2];simp;grind
  have p02:parS 0 1 (t*t) 2=1:=by simp [parS,Qg,tmf];grind
  have p12:parS 1 1 (t*t) 2=t*t/2:=by simp [parS,Qg,m1];grind
  have p03:parS 0 1 (t*t) 3=1+t*t*(t*t)/24:=by simp [parS,Qg,m1,m2];simp [tmf];grind
  have p13:parS 1 1 (t*t) 3=t*t/2:=by simp [parS,Qg,m1,m2];grind
  have e1:=altS_enc (f:=1) (by omega) x0 x1 (K:=2) (r:=t*t*(t*t)/22) (by omega) (le_eq p02.symm) (le_eq p02) (le_eq p12.symm) (le_eq p12) (by rw [m2];grind)
  have e2:=altS_enc (f:=1) (by omega) x0 x1 (K:=3) (r:=t*t*(t*t)*(t*t)/660) (by omega) (le_eq p03.symm) (le_eq p03) (le_eq p13.symm) (le_eq p13) (by rw [m3];grind)
  rw [cos_seq] at h
  have u:=h.meets e1
  have w:=e2.meets h
  exact ⟨by grind,by grind⟩
theorem quarL_spec{x:Dx}{p:Int}:∀ (n:Nat) (w:Int),8≤w→quarL x p n w=(0,zeroIv,6)∨∃ w',8≤w'∧w'≤8192∧okW x p w'=true∧quarL x p n w=((tryP x p w').1,(tryP x p w').2.1,0)
  | 0,_,_=>.inl rfl
  | n+1,w,hw=>by
    rw [quarL]
    split
    · rename_i h
      exact .inr ⟨min w 8192,by omega,by omega,h,rfl⟩
    · split
      · exact .inl rfl
      · exact quarL_spec n (2*min w 8192) (by omega)
theorem okW_parts{x:Dx}{p w:Int}(h:okW x p w=true):sureW (zW w) x w=true∧qT (zY (zW w) x w)=true∧Q7 (zY (zW w) x w) p=true∧tryP x p w=(by4I (nW (zW w) x w),zY (zW w) x w,true):=by
  unfold okW at h
  rw [Bool.and_eq_true] at h
  unfold tryP tryW at h ⊢
  by_cases hs:sureW (zW w) x w=true
  · rw [if_pos hs] at h ⊢
    exact ⟨hs,h.2,h.1,by rw [show Q7 (zY (zW w) x w) p=true from h.1]⟩
  · rw [if_neg hs] at h
    cases h.1
def condQ(x:Dx)(p:Int):Prop:=x.fitsB=true∧8≤p∧p≤3968
structure QuE (y:Dx) (p:Int) (Q:Int×Vx×Int) (w:Int):Prop where
  w0:8≤w
  w1:w≤8192
  sure:sureW (zW w) y w=true
  right:qT (zY (zW w) y w)=true
  nar:Q7 (zY (zW w) y w) p=true
  eq:Q=(by4I (nW (zW w) y w),zY (zW w) y w,0)
theorem ZC(x:Dx)(p:Int):(¬ condQ x p∧zB x p=(0,zeroIv,2))∨(condQ x p∧(qC x).m=0∧zB x p=(0,zeroIv,0))∨(condQ x p∧(qC x).m≠0∧1024≤XG (qC x)∧zB x p=(0,zeroIv,3)) ∨
    (condQ x p∧(qC x).m≠0∧XG (qC x)<1024∧zB x p=(0,zeroIv,6))∨(condQ x p∧(qC x).m≠0∧XG (qC x)<1024∧∃ w,QuE (qC x) p (zB x p) w):=by
  by_cases c:condQ x p
  · have e:zB x p=(if (qC x).m=0 then (0,zeroIv,0) else if 1024≤XG (qC x) then (0,zeroIv,3) else quarL (qC x) p 9 (max (XG (qC x)) 0+p+64)):=if_pos c
    by_cases z:(qC x).m=0
    · exact .inr (.inl ⟨c,z,by rw [e,if_pos z]⟩)
    · by_cases t:1024≤XG (qC x)
      · exact .inr (.inr (.inl ⟨c,z,t,by rw [e,if_neg z,if_pos t]⟩))
      · rw [if_neg z,if_neg t] at e
        have cp:=c.2.1
        rcases quarL_spec (x:=qC x) (p:=p) 9 (max (XG (qC x)) 0+p+64) (by omega) with h | ⟨w,w0,w1,ok,h⟩
        · exact .inr (.inr (.inr (.inl ⟨c,z,by omega,by rw [e,h]⟩)))
        · obtain ⟨o1,o2,o3,o4⟩:=okW_parts ok
          rw [o4] at h
          exact .inr (.inr (.inr (.inr ⟨c,z,by omega,w,⟨w0,w1,o1,o2,o3,by rw [e,h]⟩⟩)))
  · exact .inl ⟨c,if_neg c⟩
def piN:Nat:=3982441812995697363688351113952
theorem at5_enc2:Enc (sgnS true (atT 5)) (parG 0 (atT 5) 24-(parG 1 (atT 5) 24+12/11*atT 5 24)) (parG 0 (atT 5) 24+12/11*atT 5 24-parG 1 (atT 5) 24) :=
  altG_enc (r:=atT 5) (Yv (by omega)) (atT_fall (by omega)) (K:=24) (q:=12/11*atT 5 24) Rat.le_refl Rat.le_refl Rat.le_refl Rat.le_refl (by grind)
theorem at239_enc2:Enc (sgnS true (atT 239)) (parG 0 (atT 239) 8-(parG 1 (atT 239) 8+12/11*atT 239 8)) (parG 0 (atT 239) 8+12/11*atT 239 8-parG 1 (atT 239) 8) :=
  altG_enc (r:=atT 239) (Yv (by omega)) (atT_fall (by omega)) (K:=8) (q:=12/11*atT 239 8) Rat.le_refl Rat.le_refl Rat.le_refl Rat.le_refl (by grind)
theorem piS_enc2:Enc piS (((piN:Int)-1:Int)*p2 (-100)) (((piN:Int)+2:Int)*p2 (-100)) :=
  ((at5_enc2.scale (c:=16) (by decide)).add ((at239_enc2.scale (c:=4) (by decide)).neg)).wide (by decide +kernel) (by decide +kernel)
theorem half_100{w:Int}(w0:128≤w)(w1:w≤16384){c:Rat}(hc:InV (zW w) c):(((piN:Int)-2:Int):Rat)*p2 (-100)≤2*c∧2*c≤(((piN:Int)+3:Int):Rat)*p2 (-100):=by
  have k:=Ya (w:=w) (by omega) (by omega)
  have m1:=k.enc.meets piS_enc2
  have m2:=piS_enc2.meets k.enc
  have nr:=k.nar
  have d1:p2 (-3-w)≤p2 (-100):=Qz (by omega)
  have q:=qL (-100)
  obtain ⟨c1,c2⟩:=hc
  have e1:(((piN:Int)-2:Int):Rat)=(((piN:Int)-1:Int):Rat)-1:=by rw [←show ((1:Int):Rat)=1 from rfl,←Rat.intCast_sub];congr 1
  have e2:(((piN:Int)+3:Int):Rat)=(((piN:Int)+2:Int):Rat)+1:=by rw [←show ((1:Int):Rat)=1 from rfl,←rcA];congr 1
  rw [e1,e2]
  generalize (((piN:Int)-1:Int):Rat)=a at *
  generalize (((piN:Int)+2:Int):Rat)=b at *
  generalize p2 (-100)=P at *
  constructor<;>grind
theorem quarL_dec{x:Dx}{p:Int}(ok:okW x p 8192=true):∀ (n:Nat) (w:Int),8≤w→8192≤w*2^n→∃ w',8≤w'∧w'≤8192∧okW x p w'=true∧quarL x p (n+1) w=((tryP x p w').1,(tryP x p w').2.1,0)
  | n,w,hw,hn=>by
    rw [quarL]
    split
    · rename_i h
      exact ⟨min w 8192,by omega,by omega,h,rfl⟩
    · rename_i h
      split
      · rename_i h8
        rw [h8] at h;exact absurd ok h
      · rename_i h8
        have hm:min w 8192=w:=by omega
        cases n with
        | zero=>rw [Int.pow_zero] at hn;omega
        | succ n =>
          rw [hm]
          refine quarL_dec ok n (2*w) (by omega) ?_
          rw [Int.pow_succ,Int.mul_comm (2^n) 2,←Int.mul_assoc,Int.mul_comm w 2] at hn;exact hn
theorem quar_dec{x:Dx}{p:Int}(c:condQ x p)(z:(qC x).m≠0)(t:XG (qC x)<1024)(ok:okW (qC x) p 8192=true):∃ w,QuE (qC x) p (zB x p) w:=by
  have e:zB x p=quarL (qC x) p 9 (max (XG (qC x)) 0+p+64):=by
    have:zB x p=(if (qC x).m=0 then (0,zeroIv,0) else if 1024≤XG (qC x) then (0,zeroIv,3) else quarL (qC x) p 9 (max (XG (qC x)) 0+p+64)):=if_pos c
    rw [this,if_neg z,if_neg (by omega)]
  have cp:=c.2.1
  obtain ⟨w,w0,w1,ok',h⟩:=quarL_dec ok 8 (max (XG (qC x)) 0+p+64) (by omega) (by omega)
  obtain ⟨o1,o2,o3,o4⟩:=okW_parts ok'
  rw [o4] at h
  exact ⟨w,⟨w0,w1,o1,o2,o3,by rw [e];exact h⟩⟩
def lstD:Dx:=⟨false,ws 1,-2048⟩
def eigV(w:Int):Vx:=zE (YZ w) (-2)
def eigH:Vx:=eigV 3328
def hardB(x:Dx):Bool:=!x.zeroB && (ltI (QJ (zY eigH x 3328).lo lstD) 0 && ltI (QJ (ZO lstD) (zY eigH x 3328).hi) 0)
def enclB(v u:Vx)(p:Int):Bool:=qT v && (sameV v (canonV v) && (Qj v p && (leI (QJ v.lo u.hi) 0 && leI (QJ u.lo v.hi) 0)))
def hEncl:qU:=qF [.v,.v,.i .i64] fun (v:Vx) (u:Vx) (p:Int)=>(some (u.Sm 34359738368),bT (enclB v u p))
theorem hEncl_vc(v u:Vx)(p:Int)(Q:Tv→Prop):qH ⟨tys2,sQh1⟩ (fun _=>none) 0 Tryz.f57 [.agg (ivL false v),.agg (ivL false u),.one (.int .i64 p)] Q=(br (qT v) (Vx.Sm 65536 v∧br (sameV v (canonV v)) (br (Qj v p) ((Dx.Sm 34359738368 v.lo∧Dx.Sm 34359738368 u.hi)∧br (leI (QJ v.lo u.hi) 0) ((Dx.Sm 34359738368 u.lo∧Dx.Sm 34359738368 v.hi)∧true=true∧Q (bT (leI (QJ u.lo v.hi) 0))) (true=true∧Q (bT false))) (true=true∧Q (bT false))) (true=true∧Q (bT false))) (true=true∧Q (bT false))):=by kernel_rfl
theorem hEncl_ok:SpecOk Tryz.prog 57 hEncl :=
  qG (qO QF sQh1_ok) mixed Tryz.func57 rfl (by decide) (by decide) fun (v:Vx) _ (u:Vx) _ (p:Int) _ hp=>⟨fun _=>none,0,by
    have su:u.Sm 34359738368:=hp
    show qH _ _ _ _ _ (fun t=>t=bT (enclB v u p))
    unfold enclB
    refine (hEncl_vc v u p _).mpr (qB (fun h=>?_) fun h=>⟨rfl,by rw [h];rfl⟩)
    have sv:=QZ h
    refine ⟨sv,qB (fun h1=>qB (fun h2=>⟨⟨sv.1.mono (by omega),su.2⟩,qB (fun h3=>⟨⟨su.1,sv.2.mono (by omega)⟩,rfl,?_⟩) fun h3=>⟨rfl,?_⟩⟩) fun h2=>⟨rfl,?_⟩) fun h1=>⟨rfl,?_⟩⟩
    · rw [h,h1,h2,h3];rfl
    · rw [h,h1,h2,h3];rfl
    · rw [h,h1,h2];rfl
    · rw [h,h1];rfl⟩
structure EiIv (d:Rat) (h:Vx):Prop where
  p:h.P
  enc:Enc piS (4*h.lo.rv) (4*h.hi.rv)
  lo:3/4≤h.lo.rv
  hi:h.hi.rv≤1
  nar:h.hi.rv≤h.lo.rv+d
theorem EiIv.le{d:Rat}{h:Vx}(k:EiIv d h):h.lo.rv≤h.hi.rv:=by have:=k.enc.self;grind
theorem EiIv.off{d:Rat}{h:Vx}(k:EiIv d h):Off0 h:=.inl (by have:=k.lo;grind)
theorem eigV_ends(w:Int):(eigV w).lo=zC (YZ w).lo (-2)∧(eigV w).hi=zC (YZ w).hi (-2):=⟨rfl,rfl⟩
theorem refH_ends(w:Int):(refH w).lo=zC (YZ w).lo (-1)∧(refH w).hi=zC (YZ w).hi (-1):=⟨rfl,rfl⟩
theorem eigV_iv{w:Int}(w0:64≤w)(w1:w≤65000):EiIv (p2 (23-w)/4) (eigV w):=by
  have h:=refPi_iv (w:=w) (by omega) (by omega)
  have r1:(eigV w).lo.rv=(YZ w).lo.rv*(1/4):=by rw [←p2_v.2.2.2,(eigV_ends w).1];exact Z7 h.p.1
  have r2:(eigV w).hi.rv=(YZ w).hi.rv*(1/4):=by rw [←p2_v.2.2.2,(eigV_ends w).2];exact Z7 h.p.2
  have l:=h.lo
  have k:=h.hi
  have n:=h.nar
  have e1:4*(eigV w).lo.rv=(YZ w).lo.rv:=by rw [r1];grind
  have e2:4*(eigV w).hi.rv=(YZ w).hi.rv:=by rw [r2];grind
  exact ⟨⟨shiftD_p,shiftD_p⟩,by rw [e1,e2];exact h.enc,by grind,by grind,by grind⟩
theorem eigH_iv:EiIv (p2 (23-3328)/4) eigH:=eigV_iv (by decide) (by decide)
theorem inv_le4{c:Rat}(h:3/4≤c):0<c⁻¹∧c⁻¹≤4/3:=by
  have hc:0<c:=by grind
  have p:=Rat.inv_pos.2 hc
  have e:=Rat.inv_mul_cancel c (by grind)
  have m:=rmL h (rlL p)
  exact ⟨p,by grind⟩
theorem inv_close4{a b d:Rat}(ha:3/4≤a)(hb:3/4≤b)(h1:a-b≤d)(h2:b-a≤d):a⁻¹-b⁻¹≤2*d∧b⁻¹-a⁻¹≤2*d:=by
  obtain ⟨a0,a1⟩:=inv_le4 ha
  obtain ⟨b0,b1⟩:=inv_le4 hb
  have ea:=Rat.inv_mul_cancel a (by grind)
  have eb:=Rat.inv_mul_cancel b (by grind)
  have d0:0≤d:=by grind
  have p0:=rmN (rlL a0) (rlL b0)
  have p1:a⁻¹*b⁻¹≤2:=by
    have:=rmL (show b⁻¹≤4/3 by grind) (rlL a0)
    grind
  have e1:a⁻¹-b⁻¹=(a⁻¹*b⁻¹)*(b-a):=by
    have x1:(a⁻¹*b⁻¹)*b=a⁻¹:=by rw [Rat.mul_assoc,eb,Rat.mul_one]
    have x2:(a⁻¹*b⁻¹)*a=b⁻¹:=by rw [Rat.mul_comm a⁻¹,Rat.mul_assoc,ea,Rat.mul_one]
    grind
  have m1:=rmL h2 p0
  have m2:=rmL h1 p0
  have m3:=rmR p1 d0
  constructor<;>grind
theorem eig_close{d:Rat}{h:Vx}(k:EiIv d h){x:Dx}(hx:0≤x.m){w:Int}(hw:1≤w){A c:Rat}(hc:InV h c)(h1:-A≤x.rv)(h2:x.rv≤A) :
    x.rv*c⁻¹-A*(2*d+2*eps w)≤(quoW h x w).lo.rv∧(quoW h x w).lo.rv≤x.rv*c⁻¹+A*(2*d+2*eps w):=by
  have A0:0≤A:=by grind
  have cl:=hc.1
  have ch:=hc.2
  have l:=k.lo
  have nr:=k.nar
  have le:=k.le
  have e0:=Yf w
  obtain ⟨⟨a,b,hcor,e1⟩,_⟩:=div_at (qD x) h w
  obtain ⟨p1,p2'⟩:=Xf hx
  have r1:a.rv=x.rv:=by rcases hcor.1 with e | e<;>rw [e];exact p1;exact p2'
  have hb:3/4≤b.rv∧b.rv-c≤d∧c-b.rv≤d:=by
    rcases hcor.2 with e | e<;>rw [e]<;>exact ⟨by grind,by grind,by grind⟩
  obtain ⟨i1,i2⟩:=inv_close4 hb.1 (show 3/4≤c by grind) hb.2.1 hb.2.2
  obtain ⟨i0,i3⟩:=inv_le4 hb.1
  have mb:=mul_bd h1 h2 i1 i2
  have r34:-(2*A)≤x.rv*b.rv⁻¹∧x.rv*b.rv⁻¹≤2*A:=by
    rcases (show 0≤x.rv∨x.rv≤0 by grind) with s | s
    · have m1:=rmL (show b.rv⁻¹≤2 by grind) s
      have m0:=rmN s (rlL i0)
      constructor<;>grind
    · have m1:=rmL (show b.rv⁻¹≤2 by grind) (show 0≤-x.rv by grind)
      have m0:=rmN (show 0≤-x.rv by grind) (rlL i0)
      constructor<;>grind
  have c1:=(hcor.best (zJ x) k.p k.off le hw).2.1
  rw [r1] at c1
  have b1:=c1.close hw r34.1 r34.2
  have z:=rmN A0 (rlL e0)
  have eA:A*(2*d+2*eps w)=A*(2*d)+eps w*(2*A):=by grind
  rw [eA]
  show _≤(Zx (qD x) h w).lo.rv∧(Zx (qD x) h w).lo.rv≤_
  rw [e1]
  constructor<;>grind
theorem rest_any{h:Vx}(hp:h.P){x:Dx}(hx:0≤x.m){w:Int}(hw:1≤w){c:Rat}(hc:InV h c):InV (zY h x w) (x.rv-(nI h x w:Rat)*c):=by
  have en:(nW h x w).rv=(nI h x w:Rat):=(YK Yg).symm
  have np:0≤(nW h x w).m:=nearD_p
  obtain ⟨a1,a2⟩:=prod_in (zJ (nW h x w)) hp (pointV_in np) hc
  rw [en] at a1 a2
  obtain ⟨t1,t2⟩:=times_best (v:=qD (nW h x w)) (u:=h) (p:=w+64) (by omega) (zJ _) hp
  have t1':=t1.2.1
  have t2':=t2.2.1
  obtain ⟨l1,l2⟩:=less_best (v:=qD x) (u:=qK (qD (nW h x w)) h (w+64)) (zJ x) (Q9 _ _) hw
  obtain ⟨p1,p2'⟩:=Xf hx
  have l1':=l1.2.1
  have l2':=l2.2.1
  constructor
  · have:(zY h x w).lo.rv≤(qD x).lo.rv-(qK (qD (nW h x w)) h (w+64)).hi.rv:=l1'
    grind
  · have:(qD x).hi.rv-(qK (qD (nW h x w)) h (w+64)).lo.rv≤(zY h x w).hi.rv:=l2'
    grind
theorem lst_rv:lstD.rv=p2 (-2048):=by
  have:lstD.sm=1:=by
    have e:lstD.m=1:=Zi
    unfold Dx.sm;rw [e];rfl
  unfold Dx.rv;rw [this]
  show ((1:Int):Rat)*p2 (-2048)=_
  have e1:((1:Int):Rat)=1:=rfl
  rw [e1,Rat.one_mul]
theorem lst_p:0≤lstD.m:=by rw [show lstD.m=1 from Zi];decide
theorem soft_far{x:Dx}(hx:0≤x.m)(hx0:x.m≠0)(hs:hardB x=false){A c:Rat}(hA:A*(2*(p2 (23-3328)/4)+2*eps 3328)≤1/100)(h1:-A≤x.rv)(h2:x.rv≤A)(hc:InV eigH c)(_:c≤4/5)(m:Int) :
    p2 (-2048)≤x.rv-(m:Rat)*c∨x.rv-(m:Rat)*c≤-(p2 (-2048)):=by
  have k:=eigH_iv
  have q48:p2 (-2048)≤1/8:=by decide +kernel
  obtain ⟨r1,r2⟩:=rest_any k.p hx (w:=3328) (by decide) hc
  obtain ⟨q1,q2⟩:=eig_close k hx (w:=3328) (by decide) hc h1 h2
  obtain ⟨n1,n2,_⟩:=nW_near (h:=eigH) (x:=x) (w:=3328)
  have c0:3/4≤c:=by have:=k.lo;have:=hc.1;grind
  have cp:0<c:=by grind
  have far:p2 (-2048)≤x.rv-(nI eigH x 3328:Rat)*c∨x.rv-(nI eigH x 3328:Rat)*c≤-(p2 (-2048)):=by
    unfold hardB at hs
    have z:x.zeroB=false:=QV.2 hx0
    rw [z] at hs
    cases a:ltI (QJ (zY eigH x 3328).lo lstD) 0 with
    | false =>
      have a:=qJ.1 a
      refine .inl ?_
      have:lstD.rv≤(zY eigH x 3328).lo.rv:=by
        rcases YW (zY eigH x 3328).lo lstD with ⟨e,b⟩|⟨e,b⟩|⟨e,b⟩
        · omega
        · grind
        · grind
      rw [lst_rv] at this;grind
    | true =>
      rw [a] at hs
      have b:=qJ.1 (show ltI (QJ (ZO lstD) (zY eigH x 3328).hi) 0=false by simpa using hs)
      refine .inr ?_
      have:(zY eigH x 3328).hi.rv≤(ZO lstD).rv:=by
        rcases YW (ZO lstD) (zY eigH x 3328).hi with ⟨e,b⟩|⟨e,b⟩|⟨e,b⟩
        · omega
        · grind
        · grind
      rw [rv_neg lst_p,lst_rv] at this;grind
  by_cases hm:m=nI eigH x 3328
  · rw [hm];exact far
  · -- another multiple lies further away
    have xc:x.rv=x.rv*c⁻¹*c:=by rw [Rat.mul_assoc,Rat.inv_mul_cancel c (by grind),Rat.mul_one]
    have d1:x.rv*c⁻¹-(nI eigH x 3328:Rat)≤51/100:=by grind
    have d2:-(51/100)≤x.rv*c⁻¹-(nI eigH x 3328:Rat):=by grind
    have e:x.rv-(m:Rat)*c=(x.rv*c⁻¹-(m:Rat))*c:=by
      conv=>lhs;rw [xc]
      grind
    rw [e]
    rcases (show m+1≤nI eigH x 3328∨nI eigH x 3328+1≤m by omega) with g | g
    · have g:=zG.2 g
      rw [rcA] at g
      have e1:((1:Int):Rat)=1:=rfl
      rw [e1] at g
      have:=rmR (show 49/100≤x.rv*c⁻¹-(m:Rat) by grind) (rlL cp)
      exact .inl (by grind)
    · have g:=zG.2 g
      rw [rcA] at g
      have e1:((1:Int):Rat)=1:=rfl
      rw [e1] at g
      have:=rmR (show x.rv*c⁻¹-(m:Rat)≤-(49/100) by grind) (rlL cp)
      exact .inr (by grind)
theorem eig_of_half{w:Int}(w0:64≤w)(w1:w≤65000){c:Rat}(hc:InV (refH w) c):InV (eigV w) (c*(1/2)):=by
  have h:=refPi_iv (w:=w) (by omega) (by omega)
  have r1:(eigV w).lo.rv=(YZ w).lo.rv*(1/4):=by rw [←p2_v.2.2.2,(eigV_ends w).1];exact Z7 h.p.1
  have r2:(eigV w).hi.rv=(YZ w).hi.rv*(1/4):=by rw [←p2_v.2.2.2,(eigV_ends w).2];exact Z7 h.p.2
  have s1:(refH w).lo.rv=(YZ w).lo.rv*(1/2):=by rw [←p2_v.2.2.1,(refH_ends w).1];exact Z7 h.p.1
  have s2:(refH w).hi.rv=(YZ w).hi.rv*(1/2):=by rw [←p2_v.2.2.1,(refH_ends w).2];exact Z7 h.p.2
  obtain ⟨c1,c2⟩:=hc
  rw [s1] at c1
  rw [s2] at c2
  exact ⟨by rw [r1];grind,by rw [r2];grind⟩
theorem soft_ok{x:Dx}(hx:0≤x.m){p:Int}(p0:8≤p)(p1:p≤3968)(z:x.m≠0)(t:XG (qC x)<1024)(hs:hardB x=false):okW (qC x) p 8192=true:=by
  have fy:OneF (qC x):=oneD_f hx
  have ey:(qC x).rv=x.rv:=Qs hx
  obtain ⟨t1,t2⟩:=top_lt fy.p t
  rw [ey] at t1 t2
  have hf:=Ya (w:=8192) (by decide) (by decide)
  obtain ⟨c,hc,hc',c1,c2⟩:=hf.common (refH_hf (w:=3328) (by decide) (by decide))
  obtain ⟨g1,g2⟩:=half_100 (w:=8192) (by decide) (by decide) hc
  have num0:(((piN:Int)+3:Int):Rat)*p2 (-100)≤32/10:=by decide +kernel
  have he:=eig_of_half (by decide) (by decide) hc'
  have far:=soft_far hx z hs (A:=p2 (1024:Nat)) (by decide +kernel) (by grind) (by grind) he (by grind)
  obtain ⟨q1,q2⟩:=quoW_close hf fy.p (w:=8192) (by decide) (A:=p2 (1024:Nat)) hc (by rw [ey];grind) (by rw [ey];grind)
  obtain ⟨i1,i2⟩:=quoW_in hf fy.p (w:=8192) (by decide) hc
  obtain ⟨n1,n2,_⟩:=nW_near (h:=zW 8192) (x:=qC x) (w:=8192)
  rw [ey] at q1 q2 i1 i2
  have num1:p2 (1024:Nat)*(p2 (-3-8192)/2+eps 8192)≤p2 (-2048)/8:=by decide +kernel
  have num2:2*(p2 (1025:Nat)*(p2 (-3-8192)/2)+eps 8192*(p2 (1024:Nat)+8*p2 (1025:Nat)))≤p2 (-6100):=by decide +kernel
  have num3:p2 (-6100)≤p2 (-2049-p):=Qz (by omega)
  have num4:p2 (1025:Nat)=2*p2 (1024:Nat):=by decide +kernel
  have num5:1≤p2 (1024:Nat):=by decide +kernel
  have q0:=qL (-2048)
  have q8:p2 (-2048)≤1/8:=by decide +kernel
  have cp:0<c:=by grind
  have ic:=Rat.inv_mul_cancel c (by grind)
  obtain ⟨v0,v1⟩:=inv_le1 c1
  generalize hn:nI (zW 8192) (qC x) 8192=n at *
  generalize hη:p2 (1024:Nat)*(p2 (-3-8192)/2+eps 8192)=η at *
  have xe:x.rv=x.rv*c⁻¹*c:=by rw [Rat.mul_assoc,ic,Rat.mul_one]
  have f0:=far (2*n)
  have f1:=far (2*n+1)
  have f2:=far (2*n-1)
  have e2:((2:Int):Rat)=2:=rfl
  have e1:((1:Int):Rat)=1:=rfl
  rw [rcM,e2] at f0
  rw [rcA,rcM,e2,e1] at f1
  rw [Rat.intCast_sub,rcM,e2,e1] at f2
  have b0:x.rv-2*(n:Rat)*(c*(1/2))=x.rv-(n:Rat)*c:=by grind
  have b1:x.rv-(2*(n:Rat)+1)*(c*(1/2))=(x.rv*c⁻¹-(n:Rat)-1/2)*c:=by
    conv=>lhs;rw [xe]
    grind
  have b2:x.rv-(2*(n:Rat)-1)*(c*(1/2))=(x.rv*c⁻¹-(n:Rat)+1/2)*c:=by
    conv=>lhs;rw [xe]
    grind
  rw [b0] at f0
  rw [b1] at f1
  rw [b2] at f2
  generalize hQ:x.rv*c⁻¹=Q at *
  generalize hρ:p2 (-2048)=ρ at *
  have up:Q-(n:Rat)-1/2≤-(ρ/2):=by
    rcases f1 with f | f
    · exfalso
      have:=rmR (show Q-(n:Rat)-1/2≤η by grind) (rlL cp)
      have:=rmL c2 (show 0≤η by grind)
      grind
    · rw [←Rat.not_lt];intro hlt
      have:=Rat.mul_lt_mul_of_pos_right hlt cp
      have:=rmL c2 (show 0≤ρ/2 by grind)
      grind
  have dn:ρ/2≤Q-(n:Rat)+1/2:=by
    rcases f2 with f | f
    · rw [←Rat.not_lt];intro hlt
      have:=Rat.mul_lt_mul_of_pos_right hlt cp
      have:=rmL c2 (show 0≤ρ/2 by grind)
      grind
    · exfalso
      have:=rmN (show 0≤Q-(n:Rat)+1/2 by grind) (rlL cp)
      grind
  have bQ:-(p2 (1024:Nat))≤Q∧Q≤p2 (1024:Nat):=by
    rw [←hQ]
    rcases (show 0≤x.rv∨x.rv≤0 by grind) with s | s
    · have m1:=rmL (show c⁻¹≤1 by grind) s
      have m0:=rmN s (rlL v0)
      constructor<;>grind
    · have m1:=rmL (show c⁻¹≤1 by grind) (show 0≤-x.rv by grind)
      have m0:=rmN (show 0≤-x.rv by grind) (rlL v0)
      constructor<;>grind
  obtain ⟨s1,s2,s3,s4⟩:=quart_ok hf fy.p (w:=8192) (by decide) (by decide) (A:=p2 (1024:Nat)) (B:=p2 (1025:Nat)) hc (by rw [ey];grind) (by rw [ey];grind) (m:=n) (a:=-2049) (p:=p) (by rw [num4];grind) (by rw [num4];grind) (by rw [ey,hQ,hη];grind) (by rw [ey,hQ,hη];grind) (by decide +kernel) (by decide +kernel) (by
    rw [ey,show (-2049:Int)+1 = -2048 by decide,hρ];exact f0) (by omega) (by grind) (by decide) (by decide)
  exact (okW_of s1 s3 s4).1
theorem hquL_spec{x:Dx}{p:Int}:∀ (n:Nat) (w:Int),64≤w→hquL x p n w=(0,zeroIv,6)∨∃ w',64≤w'∧w'≤16384∧(tryH x p w').2.2=true∧hquL x p n w=((tryH x p w').1,(tryH x p w').2.1,0)
  | 0,_,_=>.inl rfl
  | n+1,w,hw=>by
    rw [hquL]
    split
    · split
      · rename_i h1 h2
        exact .inr ⟨w,hw,h1,h2,rfl⟩
      · exact hquL_spec n (2*w) (by omega)
    · exact .inl rfl
theorem tryH_parts{x:Dx}{p w:Int}(h:(tryH x p w).2.2=true):sureW (refH w) x w=true∧Qj (zY (refH w) x w) p=true∧tryH x p w=(by4I (nW (refH w) x w),zY (refH w) x w,true):=by
  unfold tryH at h ⊢
  by_cases hs:sureW (refH w) x w=true
  · rw [if_pos hs] at h ⊢
    exact ⟨hs,h,by rw [show Qj (zY (refH w) x w) p=true from h]⟩
  · rw [if_neg hs] at h;cases h
instance condQ_dec (x:Dx) (p:Int):Decidable (condQ x p):=inferInstanceAs (Decidable (_∧_∧_))
theorem faultQ_eq{x:Dx}(hx:0≤x.m)(p:Int):YR x p=if condQ x p then (if (qC x).m≠0∧1024≤XG (qC x) then 3 else 0) else 2:=by
  have e:(qC x).m=0↔x.m=0:=Zw hx
  unfold YR
  by_cases c:condQ x p
  · rw [if_pos c,if_pos (show x.fitsB=true∧8≤p∧p≤3968 from c)]
    by_cases h:x.m≠0∧1024≤XG (qC x)
    · rw [if_pos h,if_pos ⟨fun k=>h.1 (e.1 k),h.2⟩]
    · rw [if_neg h,if_neg fun k=>h ⟨fun j=>k.1 (e.2 j),k.2⟩]
  · rw [if_neg c,if_neg (show ¬ (x.fitsB=true∧8≤p∧p≤3968) from c)]
theorem sameV_refl2(v:Vx):sameV v v=true:=by rw [sameV,sameD_refl2,sameD_refl2];rfl
inductive QL (x:Dx) (p:Int):Prop where
  | same (c:Int) (h1:zB x p=(0,zeroIv,c)) (h2:Z4 x p=(0,zeroIv,c)) (hc:c≠0∧c≠6)
  | zero (h1:zB x p=(0,zeroIv,0)) (h2:Z4 x p=(0,zeroIv,0)) (p0:0≤p)
  | hard (h1:zB x p=(0,zeroIv,6)) (h2:(Z4 x p).2.2=0∨(Z4 x p).2.2=6) (hh:hardB x=true) (hi:inX x) (hq:(Z4 x p).2.1.Sm 34359738368)
  | ok (k:Int) (r:Vx) (h1:zB x p=(k,r,0)) (k0:0≤k) (k1:k<4) (hn:Qj r p=true) (hr:qT r=true) (hs:sameV r (canonV r)=true) (h2:(Z4 x p).2.2=6∨(Z4 x p).2.2=0∧(Z4 x p).1=k∧r.lo.rv≤(Z4 x p).2.1.hi.rv∧(Z4 x p).2.1.lo.rv≤r.hi.rv) (hq:(Z4 x p).2.1.Sm 34359738368)
theorem ql(x:Dx)(hx:0≤x.m)(p:Int):QL x p:=by
  have fy:OneF (qC x):=oneD_f hx
  have ey:(qC x).rv=x.rv:=Qs hx
  have em:(qC x).m=0↔x.m=0:=Zw hx
  have fq:=faultQ_eq hx p
  have zsm:zeroIv.Sm 34359738368:=(QZ (v:=zeroIv) (by rw [right_K];decide +kernel)).mono (by decide)
  have hqc:∀ (c:condQ x p) (z:(qC x).m≠0) (t:XG (qC x)<1024),Z4 x p=(0,zeroIv,6)∨∃ w,64≤w∧w≤16384∧(tryH x p w).2.2=true∧Z4 x p=((tryH x p w).1,(tryH x p w).2.1,0):=fun c z t=>by
    rw [if_pos c,if_neg (by omega)] at fq
    have:=c.2.1
    rw [Z4,if_neg (by rintro (k | k);exact k fq;exact z (em.2 k))]
    exact hquL_spec 9 _ (by omega)
  have smq:∀ (c:condQ x p) (t:XG (qC x)<1024) (w:Int),64≤w→w≤16384→(zY (refH w) x w).Sm 34359738368:=fun c t w w0 w1=>by
    have cb:=refPi_bd w0 (show w≤65536 by omega)
    have hb:(refH w).Bd (w+65) 8:=Vx.Bd.mono (cb.scale1 (refPi_iv (w:=w) (by omega) (by omega)).p) (by omega) (by omega)
    exact (half_sizes (refH_hf (w:=w) (by omega) (by omega)) (by omega) (by omega) hb hx (inX_of hx c.1 t)).2.2.2.2.2.sm (by omega)
  rcases ZC x p with ⟨c,q⟩|⟨c,z,q⟩|⟨c,z,t,q⟩|⟨c,z,t,q⟩|⟨c,z,t,w,q⟩
  · rw [if_neg c] at fq
    exact .same 2 q (by rw [Z4,if_pos (.inl (by rw [fq];decide)),fq]) (by decide)
  · rw [if_pos c,if_neg fun k=>k.1 z] at fq
    exact .zero q (by rw [Z4,if_pos (.inr (em.1 z)),fq]) (by have:=c.2.1;omega)
  · rw [if_pos c,if_pos ⟨z,t⟩] at fq
    exact .same 3 q (by rw [Z4,if_pos (.inl (by rw [fq];decide)),fq]) (by decide)
  · refine .hard q ?_ ?_ (inX_of hx c.1 t) ?_
    · rcases hqc c z t with h | ⟨w,_,_,_,h⟩<;>rw [h]
      · exact .inr rfl
      · exact .inl rfl
    · cases hh:hardB x with
      | true=>rfl
      | false =>
        have ok:=soft_ok hx c.2.1 c.2.2 (fun k=>z (em.2 k)) t hh
        obtain ⟨w,qe⟩:=quar_dec c z t ok
        have:=qe.eq
        rw [q] at this
        have:=congrArg (fun r=>r.2.2) this
        cases this
    · rcases hqc c z t with h | ⟨w,w0,w1,k,h⟩
      · rw [h];exact zsm
      · rw [h,(tryH_parts k).2.2];exact smq c t w w0 w1
  · have rF:OneF (zY (zW w) (qC x) w).lo∧OneF (zY (zW w) (qC x) w).hi:=⟨YI YF,YI YF⟩
    have hs:sameV (zY (zW w) (qC x) w) (canonV (zY (zW w) (qC x) w))=true:=by
      have:canonV (zY (zW w) (qC x) w)=zY (zW w) (qC x) w:=by
        show (⟨qC _,qC _⟩:Vx)=_
        rw [Xm rF.1,Xm rF.2]
      rw [this,sameV_refl2]
    have nb:Qj (zY (zW w) (qC x) w) p=true:=by
      have:=c.2.1
      rw [Qj,q.right,q.nar,show leI 0 p=true from zS.2 (by omega)];rfl
    have b4:0≤nI (zW w) (qC x) w % 4∧nI (zW w) (qC x) w % 4<4:=by omega
    refine .ok _ _ q.eq b4.1 b4.2 nb q.right hs ?_ ?_
    · rcases hqc c z t with h | ⟨w',w0,w1,k,h⟩
      · rw [h];exact .inl rfl
      · obtain ⟨k1,k2,k3⟩:=tryH_parts k
        have hf:=Ya q.w0 (show w≤65000 by have:=q.w1;omega)
        have hf':=refH_hf (w:=w') (by omega) (by omega)
        obtain ⟨cc,dc,dc',_,_⟩:=hf.common hf'
        have w1':1≤w:=by have:=q.w0;omega
        have n1:=sure_near hf fy.p w1' q.sure dc
        have n2:=sure_near hf' hx (show 1≤w' by omega) k1 dc'
        rw [ey] at n1
        have en:=n1.uniq n2
        have r1:=rest_in hf fy.p w1' dc
        have r2:=rest_in hf' hx (show 1≤w' by omega) dc'
        rw [ey,en] at r1
        rw [h,k3]
        refine .inr ⟨rfl,?_,?_,?_⟩
        · show nI (refH w') x w' % 4=nI (zW w) (qC x) w % 4
          rw [en]
        · have:=r1.1;have:=r2.2;grind
        · have:=r1.2;have:=r2.1;grind
    · rcases hqc c z t with h | ⟨w',w0,w1,k,h⟩
      · rw [h];exact zsm
      · rw [h,(tryH_parts k).2.2];exact smq c t w' w0 w1
theorem hHard_vc(x:Dx)(fp:Int→Vx)(pr:Int→Prop)(Q:Tv→Prop):qH ⟨tys2,sQh2 fp pr⟩ (fun _=>none) 0 Tryz.f59 [.agg (dyL false x)] Q=(br (Dx.zeroB x) (Q (bT false)) (pr 3328∧(eB 2305843009213693952 (fp 3328).lo∧eB 2305843009213693952 (fp 3328).hi∧(-2305843009213693952:Int)≤(-2)∧(-2:Int)≤2305843009213693952)∧eB 4611686018427387904 x∧(Vx.Sm 16777216 (qD x)∧Vx.Sm 16777216 (zE (fp 3328) (-2))∧Dx.m (zE (fp 3328) (-2)).lo≠0∧Dx.m (zE (fp 3328) (-2)).hi≠0∧(1:Int)≤3328∧(3328:Int)≤16777216)∧Dx.Sm 268435456 (Zx (qD x) (zE (fp 3328) (-2)) 3328).lo∧true=true∧eB 4611686018427387904 x∧eB 4611686018427387904 (Qy (Zx (qD x) (zE (fp 3328) (-2)) 3328).lo)∧inR ((3328:Int)+64)∧(Vx.Sm 268435456 (qD (Qy (Zx (qD x) (zE (fp 3328) (-2)) 3328).lo))∧Vx.Sm 268435456 (zE (fp 3328) (-2))∧(0:Int)≤3328+64∧(3328:Int)+64≤1099511627776)∧(Vx.Sm 134217728 (qD x)∧Vx.Sm 134217728 (qK (qD (Qy (Zx (qD x) (zE (fp 3328) (-2)) 3328).lo)) (zE (fp 3328) (-2)) ((3328:Int)+64))∧(0:Int)≤3328∧(3328:Int)≤1099511627776)∧true=true∧zR 1∧(Dx.Sm 34359738368 (lessV (qD x) (qK (qD (Qy (Zx (qD x) (zE (fp 3328) (-2)) 3328).lo)) (zE (fp 3328) (-2)) ((3328:Int)+64)) 3328).lo∧Dx.Sm 34359738368 (Dx.mk false (ws 1) (-2048)))∧br (ltI (QJ (lessV (qD x) (qK (qD (Qy (Zx (qD x) (zE (fp 3328) (-2)) 3328).lo)) (zE (fp 3328) (-2)) ((3328:Int)+64)) 3328).lo (Dx.mk false (ws 1) (-2048))) 0) (eB 4611686018427387904 (Dx.mk false (ws 1) (-2048))∧(Dx.Sm 34359738368 (ZO (Dx.mk false (ws 1) (-2048)))∧Dx.Sm 34359738368 (lessV (qD x) (qK (qD (Qy (Zx (qD x) (zE (fp 3328) (-2)) 3328).lo)) (zE (fp 3328) (-2)) ((3328:Int)+64)) 3328).hi)∧true=true∧Q (bT (ltI (QJ (ZO (Dx.mk false (ws 1) (-2048))) (lessV (qD x) (qK (qD (Qy (Zx (qD x) (zE (fp 3328) (-2)) 3328).lo)) (zE (fp 3328) (-2)) ((3328:Int)+64)) 3328).hi) 0))) (true=true∧Q (bT false)))):=by kernel_rfl
theorem eig_nsm{d:Rat}{h:Vx}(k:EiIv d h){x:Dx}(hx:0≤x.m){w:Int}(hw:1≤w)(hd:2*d+2*eps w≤1)(h1:x.rv<p2 (1024:Nat))(h2:-(p2 (1024:Nat))<x.rv):(nW h x w).Sm 1026:=by
  obtain ⟨b1,b2⟩:=eig_close k hx hw (A:=p2 (1024:Nat)) (c:=h.lo.rv) ⟨Rat.le_refl,k.le⟩ (by grind) (by grind)
  obtain ⟨n1,n2,_⟩:=nW_near (h:=h) (x:=x) (w:=w)
  have en:(nW h x w).rv=(nI h x w:Rat):=(YK Yg).symm
  rw [←en] at n1 n2
  have f:OneF (nW h x w):=nearD_f
  refine whole_sm f Yg ?_
  have q1:p2 ((1026:Nat):Int)=4*p2 (1024:Nat):=by decide +kernel
  have q0:1≤p2 (1024:Nat):=by decide +kernel
  obtain ⟨v0,v1⟩:=inv_le4 k.lo
  rw [q1]
  generalize p2 (1024:Nat)=A at *
  generalize h.lo.rv⁻¹=c at *
  have m3:=rmL hd (show 0≤A by grind)
  have m:-(4/3*A)≤x.rv*c∧x.rv*c≤4/3*A:=by
    rcases (show 0≤x.rv∨x.rv≤0 by grind) with s | s
    · have m1:=rmL v1 s
      have m0:=rmN s (rlL v0)
      constructor<;>grind
    · have m1:=rmL v1 (show 0≤-x.rv by grind)
      have m0:=rmN (show 0≤-x.rv by grind) (rlL v0)
      constructor<;>grind
  obtain ⟨r1,r2⟩:=QX f.p
  rcases (show 0≤(nW h x w).rv∨(nW h x w).rv≤0 by grind) with s | s
  · rw [←r1 s];grind
  · rw [←r2 s];grind
theorem eig_sizes{w:Int}(w0:64≤w)(w1:w≤16384)(hd:2*(p2 (23-w)/4)+2*eps w≤1){x:Dx}(hx:0≤x.m)(hi:inX x) :
    (YZ w).Sm 131072∧(qD x).Bd 32768 98304∧(eigV w).Sm 131072∧(quoW (eigV w) x w).Sm 26214500∧(nW (eigV w) x w).Bd 0 2052∧(qK (qD (nW (eigV w) x w)) (eigV w) (w+64)).Bd (w+66) 2061∧(zY (eigV w) x w).Bd 65602 98306:=by
  obtain ⟨bx,x1,x2⟩:=hi
  have k:=eigV_iv (w:=w) w0 (by omega)
  have rp:=(refPi_iv (w:=w) (by omega) (by omega)).p
  have cb:=refPi_bd w0 (show w≤65536 by omega)
  have hb:(eigV w).Bd (w+66) 8:=⟨cb.1.shift rp.1 (by omega) (by omega) (by omega) (by omega),cb.2.shift rp.2 (by omega) (by omega) (by omega) (by omega)⟩
  have sx:=bx.sm (N:=131072) (by omega)
  have hs:=hb.sm (N:=131072) (by omega)
  have q:=quoW_sm (w:=w) hx k.p sx (hs.mono (by omega)) (by omega) (by omega)
  have sn:=eig_nsm k hx (w:=w) (by omega) hd x1 x2
  have np:0≤(nW (eigV w) x w).m:=nearD_p
  have bn:(nW (eigV w) x w).Bd 0 2052:=⟨by omega,by omega,Yg,by have:=sn.1;have:=sn.2.2;omega⟩
  have z1:=bx.point hx
  have zn:=bn.point np
  have zt:(qK (qD (nW (eigV w) x w)) (eigV w) (w+64)).Bd (0+(w+66)) (2052+8+1):=zn.times (zJ _) k.p (by omega) hb
  have zr:(zY (eigV w) x w).Bd 65602 98306:=(z1.mono (L':=65602) (T':=98304) (by omega) (by omega)).less (zJ x) (Q9 _ _) (by omega) (zt.mono (by omega) (by omega))
  exact ⟨cb.sm (by omega),z1,hs,⟨q.1.mono (by omega),q.2.mono (by omega)⟩,bn,zt.mono (by omega) (by omega),zr⟩
theorem lst_sm:lstD.Sm 4096:=⟨by show blen lstD.m≤_;rw [show lstD.m=1 from Zi];decide,by show -(4096:Int)≤-2048;omega,by show (-2048:Int)≤4096;omega⟩
def hHard:qU:=qF [.d] fun (x:Dx)=>(some (inX x),bT (hardB x))
theorem hHard_ok:SpecOk Tryz.prog 59 hHard :=
  qG (qO QF sQh2_ok) mixed Tryz.func59 rfl (by decide) (by decide) fun (x:Dx) hxw hp=>⟨fun _=>none,0,by
    have hi:inX x:=hp
    have hx:=Dx.Wf.m0 hxw
    show qH _ _ _ _ _ (fun t=>t=bT (hardB x))
    refine (hHard_vc x YZ (fun w=>32≤w∧w≤65536) _).mpr ?_
    have k:=eigH_iv
    obtain ⟨cs,z1,hs,q,bn,zt,zr⟩:=eig_sizes (w:=3328) (by decide) (by decide) (by decide +kernel) hx hi
    have sx:=hi.1.sm (N:=131072) (by omega)
    have zn:=bn.point (d:=nW (eigV 3328) x 3328) nearD_p
    have n1:=bn.lo
    have n2:=bn.hi
    have e0:eigV 3328=eigH:=rfl
    rw [e0] at hs q bn zt zr zn n1 n2
    have e1:zE (YZ 3328) (-2)=eigH:=rfl
    have e2:Zx (qD x) eigH 3328=quoW eigH x 3328:=rfl
    have e3:Qy (quoW eigH x 3328).lo=nW eigH x 3328:=rfl
    have e4:lessV (qD x) (qK (qD (nW eigH x 3328)) eigH (3328+64)) 3328=zY eigH x 3328:=rfl
    have e5:(⟨false,ws 1,-2048⟩:Dx)=lstD:=rfl
    rw [e1,e2,e3,e4,e5]
    have r1:Dx.rv eigH.lo≠0:=by have:=k.lo;grind
    have r2:Dx.rv eigH.hi≠0:=by have:=k.lo;have:=k.le;grind
    have nl:=(Yd lst_sm lst_p).mono (show 4096+4096≤34359738368 by omega)
    have ls:=lst_sm
    have rl:=zr.1.sm (N:=34359738368) (by omega)
    have rh:=zr.2.sm (N:=34359738368) (by omega)
    have ts:=zt.sm (N:=134217728) (by omega)
    have ns:=zn.sm (N:=268435456) (by omega)
    have xs:=z1.sm (N:=134217728) (by omega)
    have xs':=z1.sm (N:=16777216) (by omega)
    have ne1:=rv_ne r1
    have ne2:=rv_ne r2
    have hd:hardB x=(!x.zeroB && (ltI (QJ (zY eigH x 3328).lo lstD) 0 && ltI (QJ (ZO lstD) (zY eigH x 3328).hi) 0)):=rfl
    rw [hd]
    have nE:eB 4611686018427387904 (nW eigH x 3328):=⟨by omega,by omega⟩
    generalize zY eigH x 3328=R at *
    generalize qK (qD (nW eigH x 3328)) eigH (3328+64)=T at *
    generalize nW eigH x 3328=N at *
    generalize quoW eigH x 3328=U at *
    generalize eigH=H at *
    generalize YZ 3328=F at *
    refine qB (fun h=>?_) fun h=>⟨⟨by omega,by omega⟩,⟨cs.1.eB (by omega),cs.2.eB (by omega),by omega,by omega⟩,sx.eB (by omega),⟨xs',⟨hs.1.mono (by omega),hs.2.mono (by omega)⟩,ne1,ne2,by omega,by omega⟩,q.1.mono (by omega),rfl,sx.eB (by omega),nE,⟨by omega,by omega⟩,⟨ns,⟨hs.1.mono (by omega),hs.2.mono (by omega)⟩,by omega,by omega⟩,⟨xs,ts,by omega,by omega⟩,rfl,⟨by omega,by omega⟩,⟨rl,ls.mono (by omega)⟩,qB (fun h1=>⟨ls.eB (by omega),⟨nl,rh⟩,rfl,?_⟩) fun h1=>⟨rfl,?_⟩⟩
    · rw [h];rfl
    · rw [h,h1];rfl
    · rw [h,h1];rfl⟩
theorem alt_sum_ge{D:Nat→Rat}(h0:∀ k,0≤D k)(h:∀ k,2*D (k+1)≤D k):∀ n,D n≤Qg (fun k=>alt k*D k) (n+1)
  | 0=>by
    show D 0≤0+alt 0*D 0
    rw [show alt 0=1 from rfl];grind
  | n+1=>by
    have a:=alt_sum_ge h0 h n
    have c:=h0 n
    have b:=h n
    show D (n+1)≤Qg (fun k=>alt k*D k) (n+1)+alt (n+1)*D (n+1)
    rcases alt_one (n+1) with e | e<;>rw [e]<;>grind
theorem alt_sum_nonneg{D:Nat→Rat}(h0:∀ k,0≤D k)(h:∀ k,2*D (k+1)≤D k):∀ n,0≤Qg (fun k=>alt k*D k) n
  | 0=>Rat.le_refl
  | n+1=>Rat.le_trans (h0 n) (alt_sum_ge h0 h n)
theorem c_nonneg{c z:Rat}(hc:6≤c)(h:0≤c*z):0≤z:=Rat.not_lt.1 fun k=>by
  have:=Rat.mul_pos (show 0<c by grind) (show 0 < -z by grind)
  grind
structure Pair (c A B:Nat→Rat) (x y:Rat):Prop where
  c6:∀ k,6≤c k
  a1:∀ k,c k*A (k+1)=x*A k
  b1:∀ k,c k*B (k+1)=y*B k
  y0:0≤y
  yx:y≤x
  x1:x≤1
  b0:0≤B 0
  d0:B 0≤A 0
  i:B 0*(x-y)≤2*(A 0-B 0)
theorem Pair.ind{c A B:Nat→Rat}{x y:Rat}(h:Pair c A B x y):∀ k,0≤B k∧B k≤A k∧B k*(x-y)≤2*(A k-B k)
  | 0=>⟨h.b0,h.d0,h.i⟩
  | k+1=>by
    obtain ⟨p1,p2,p3⟩:=Pair.ind h k
    have ca:=h.a1 k
    have cb:=h.b1 k
    have c6:=h.c6 k
    have yx:=h.yx
    have y0:=h.y0
    have x1:=h.x1
    have n1:=rmN y0 p1
    have n2:=rmN (show 0≤x by grind) (show 0≤A k-B k by grind)
    have n3:=rmN p1 (show 0≤x-y by grind)
    have n4:=rmR (show y≤1 by grind) n3
    refine ⟨c_nonneg c6 (by rw [cb];exact n1),?_,?_⟩
    · have:=c_nonneg (z:=A (k+1)-B (k+1)) c6 (by grind)
      grind
    · have e:c k*(2*(A (k+1)-B (k+1))-B (k+1)*(x-y))=2*(x*A k-y*B k)-y*B k*(x-y):=by rw [←ca,←cb];grind
      have:=c_nonneg (z:=2*(A (k+1)-B (k+1))-B (k+1)*(x-y)) c6 (by rw [e];grind)
      grind
theorem Pair.half{c A B:Nat→Rat}{x y:Rat}(h:Pair c A B x y)(k:Nat):2*(A (k+1)-B (k+1))≤A k-B k:=by
  obtain ⟨p1,p2,p3⟩:=h.ind k
  obtain ⟨q1,q2,q3⟩:=h.ind (k+1)
  have m:=rmR (h.c6 k) (show 0≤A (k+1)-B (k+1) by grind)
  have n:=rmR h.x1 (show 0≤A k-B k by grind)
  have ca:=h.a1 k
  have cb:=h.b1 k
  grind
theorem Pair.le{c A B:Nat→Rat}{x y:Rat}(h:Pair c A B x y)(n:Nat):Qg (fun k=>alt k*B k) n≤Qg (fun k=>alt k*A k) n:=by
  have p:=alt_sum_nonneg (D:=fun k=>A k-B k) (fun k=>by have:=(h.ind k).2.1;grind) (fun k=>h.half k) n
  have e:Qg (fun k=>alt k*(A k-B k)) n=Qg (fun k=>alt k*A k) n + -1*Qg (fun k=>alt k*B k) n:=by
    rw [←YH,←sumTo_add];exact Q8 fun i _=>by grind
  rw [e] at p
  grind
theorem tmf_mul{f:Nat}(hf:1≤f)(x:Rat)(k:Nat):((f+2*k:Nat):Rat)*((f+2*k+1:Nat):Rat)*tmf f x (k+1)=x*tmf f x k:=by
  have p1:(0:Rat)<((f+2*k:Nat):Rat):=by rw [←Rat.intCast_natCast];exact (QA (a:=0)).2 (by omega)
  have p2:=nat_pos (f+2*k)
  have i1:=Rat.inv_mul_cancel ((f+2*k:Nat):Rat) (by grind)
  have i2:=Rat.inv_mul_cancel ((f+2*k+1:Nat):Rat) (by grind)
  rw [tmf]
  generalize ((f+2*k:Nat):Rat)=u at *
  generalize ((f+2*k+1:Nat):Rat)=v at *
  have e:u*v*(tmf f x k*x*u⁻¹*v⁻¹)=tmf f x k*x*(u⁻¹*u)*(v⁻¹*v):=by grind
  rw [e,i1,i2]
  grind
theorem coef6{a b:Nat}(ha:2≤a)(hb:3≤b):(6:Rat)≤(a:Rat)*(b:Rat):=by
  have a1:(2:Rat)≤(a:Rat):=by rw [←Rat.intCast_natCast];exact (zG (a:=2)).2 (by omega)
  have a2:(3:Rat)≤(b:Rat):=by rw [←Rat.intCast_natCast];exact (zG (a:=3)).2 (by omega)
  have b1:=rmR a1 (show 0≤(b:Rat) by grind)
  grind
theorem sinS_mono0{s t:Rat}(h0:0≤s)(h:s≤t)(h1:t≤1)(n:Nat):Yt s n≤Yt t n:=by
  have y:s*s≤t*t:=by
    have a:=rmL h h0
    have b:=rmR h (show 0≤t by grind)
    grind
  have x1:t*t≤1:=by have:=rmL h1 (show 0≤t by grind);grind
  have p:Pair (fun k=>((2+2*k:Nat):Rat)*((2+2*k+1:Nat):Rat)) (fun k=>t*tmf 2 (t*t) k) (fun k=>s*tmf 2 (s*s) k) (t*t) (s*s) :=
    { c6:=fun k=>coef6 (by omega) (by omega),a1:=fun k=>by have:=tmf_mul (f:=2) (by omega) (t*t) k;grind,b1:=fun k=>by have:=tmf_mul (f:=2) (by omega) (s*s) k;grind,
      y0:=rmN h0 h0,yx:=y,x1:=x1,b0:=by show 0≤s*1;grind,d0:=by show s*1≤t*1;grind,
      i:=by
        show s*1*(t*t-s*s)≤2*(t*1-s*1)
        have a:=rmR (show t+s≤2 by grind) (show 0≤t-s by grind)
        have b:=rmR (show s≤1 by grind) (show 0≤t*t-s*s by grind)
        grind }
  have e:∀ u:Rat,Yt u n=Qg (fun k=>alt k*(u*tmf 2 (u*u) k)) n:=fun u=>Q8 fun i _=>by rw [sinT,dpw_odd]
  rw [e,e]
  exact p.le n
theorem sinS_zero(n:Nat):Yt 0 n=0:=by rw [sinS_alt,Rat.zero_mul]
theorem sinS_mono{s t:Rat}(h0:-1≤s)(h:s≤t)(h1:t≤1)(n:Nat):Yt s n≤Yt t n:=by
  rcases (show 0≤s∨s≤0 by grind) with a | a
  · exact sinS_mono0 a h h1 n
  · have e:Yt s n = -Yt (-s) n:=by rw [←sinS_neg,Rat.neg_neg]
    rcases (show 0≤t∨t≤0 by grind) with b | b
    · have c:=sinS_mono0 (Rat.le_refl (a:=0)) b h1 n
      have d:=sinS_mono0 (Rat.le_refl (a:=0)) (show 0≤-s by grind) (by grind) n
      rw [sinS_zero] at c d
      grind
    · have e':Yt t n = -Yt (-t) n:=by rw [←sinS_neg,Rat.neg_neg]
      have d:=sinS_mono0 (show 0≤-t by grind) (show -t≤-s by grind) (by grind) n
      grind
theorem Z3{s t:Rat}(h:s*s≤t*t)(h1:t*t≤1)(n:Nat):YO t n≤YO s n:=by
  have s0:0≤s*s:=by
    rcases (show 0≤s∨s≤0 by grind) with a | a
    · exact rmN a a
    · have:=rmN (show 0≤-s by grind) (show 0≤-s by grind);grind
  have m0:∀ u:Rat,2*tmf 1 u 1=u:=fun u=>by
    have:=tmf_mul (f:=1) (by omega) u 0
    have e1:((1+2*0:Nat):Rat)*((1+2*0+1:Nat):Rat)=2:=by decide +kernel
    rw [e1] at this
    rw [this];show u*1=u;grind
  have p:Pair (fun k=>((1+2*(k+1):Nat):Rat)*((1+2*(k+1)+1:Nat):Rat)) (fun k=>tmf 1 (t*t) (k+1)) (fun k=>tmf 1 (s*s) (k+1)) (t*t) (s*s) :=
    { c6:=fun k=>coef6 (by omega) (by omega),a1:=fun k=>tmf_mul (f:=1) (by omega) (t*t) (k+1),b1:=fun k=>tmf_mul (f:=1) (by omega) (s*s) (k+1),
      y0:=s0,yx:=h,x1:=h1,b0:=by have:=m0 (s*s);show 0≤tmf 1 (s*s) 1;grind,d0:=by have:=m0 (s*s);have:=m0 (t*t);show tmf 1 (s*s) 1≤tmf 1 (t*t) 1;grind,
      i:=by
        have a:=m0 (s*s)
        have b:=m0 (t*t)
        show tmf 1 (s*s) 1*(t*t-s*s)≤2*(tmf 1 (t*t) 1-tmf 1 (s*s) 1)
        have c:=rmR (show tmf 1 (s*s) 1≤1 by grind) (show 0≤t*t-s*s by grind)
        grind }
  have e:∀ u:Rat,YO u n=Qg (fun k=>alt k*tmf 1 (u*u) k) n:=fun u=>cosS_alt u n
  cases n with
  | zero=>exact Rat.le_refl
  | succ n =>
    rw [e,e,Ys,Ys]
    have q:=p.le n
    have g:∀ u:Rat,Qg (fun i=>alt (i+1)*tmf 1 u (i+1)) n = -1*Qg (fun i=>alt i*tmf 1 u (i+1)) n:=fun u=>by
      rw [←YH];exact Q8 fun i _=>by rw [alt_succ];grind
    rw [g,g]
    show alt 0*1+_≤alt 0*1+_
    grind
theorem Enc.le{s t:Nat→Rat}{a b c d:Rat}(h:Enc s a b)(k:Enc t c d)(hs:∀ n,s n≤t n):a≤d:=by
  refine Rat.not_lt.1 fun g=>?_
  obtain ⟨N,hN⟩:=h ((a-d)/4) (by grind)
  obtain ⟨M,hM⟩:=k ((a-d)/4) (by grind)
  have x:=(hN (N+M) (by omega)).1
  have y:=(hM (N+M) (by omega)).2
  have z:=hs (N+M)
  grind
def Rel(ε x y:Rat):Prop:=(x-y≤ε*y∧y-x≤ε*y)∨(x-y≤-(ε*y)∧y-x≤-(ε*y))
theorem min_close{a1 b1 a2 b2 c1 d1 c2 d2 m y δ:Rat}(h1:Nar δ a1 b1)(h2:Nar δ a2 b2)(k1:Nar δ c1 d1)(k2:Nar δ c2 d2)(x1:a1≤d1)(x2:c1≤b1)(x3:a2≤d2)(x4:c2≤b2)
    (m1:m≤a1) (m2:m≤a2) (mm:m=a1∨m=b1∨m=a2∨m=b2) (y1:y≤c1) (y2:y≤c2) (yy:y=c1∨y=c2):m≤y+δ*y∧y≤m+δ*m:=by
  obtain ⟨a0,ab,e1⟩:=h1
  obtain ⟨a0',ab',e1'⟩:=h2
  obtain ⟨c0,cd,f1⟩:=k1
  obtain ⟨c0',cd',f1'⟩:=k2
  have M:m=a1∨m=a2:=by grind
  refine ⟨?_,?_⟩
  · rcases yy with rfl | rfl<;>grind
  · rcases M with rfl | rfl<;>grind
theorem max_close{a1 b1 a2 b2 c1 d1 c2 d2 m y δ:Rat}(d0:0≤δ)(h1:Nar δ a1 b1)(h2:Nar δ a2 b2)(k1:Nar δ c1 d1)(k2:Nar δ c2 d2)(x1:a1≤d1)(x2:c1≤b1)(x3:a2≤d2)(x4:c2≤b2)
    (m1:b1≤m) (m2:b2≤m) (mm:m=a1∨m=b1∨m=a2∨m=b2) (y1:d1≤y) (y2:d2≤y) (yy:y=d1∨y=d2):m≤y+δ*y∧y≤m+δ*m:=by
  obtain ⟨a0,ab,e1⟩:=h1
  obtain ⟨a0',ab',e1'⟩:=h2
  obtain ⟨c0,cd,f1⟩:=k1
  obtain ⟨c0',cd',f1'⟩:=k2
  have M:m=b1∨m=b2:=by grind
  have q1:=rmL (show a1≤y by grind) d0
  have q2:=rmL (show a2≤y by grind) d0
  have q3:=rmL (show c1≤m by grind) d0
  have q4:=rmL (show c2≤m by grind) d0
  refine ⟨?_,?_⟩
  · rcases M with e | e<;>grind
  · rcases yy with e | e<;>grind
theorem dn_close{q:Int}{m c y δ ε:Rat}(h:Dn q m c)(hq:1≤q)(m0:0<m)(d0:0≤δ)(d1:δ≤1)(k1:m≤y+δ*y)(k2:y≤m+δ*m)(he:2*(δ+eps q)≤ε):Rel ε c y:=by
  obtain ⟨r1,r2⟩:=h.rel hq m0
  have r3:=h.2.1
  have e0:=Yf q
  have y0:0<y:=Rat.not_le.1 fun g=>by
    have:=rmL g d0
    grind
  have t1:=rmR d1 (rlL y0)
  have t2:=rmL (show m≤2*y by grind) (show 0≤δ+eps q by grind)
  have t3:=rmR he (rlL y0)
  have t4:=rmN (rlL e0) (rlL y0)
  have t5:=rmN d0 (rlL y0)
  exact .inl ⟨by grind,by grind⟩
theorem up_close{q:Int}{m c y δ ε:Rat}(h:Up q m c)(hq:1≤q)(m0:0<m)(d0:0≤δ)(d1:δ≤1)(k1:m≤y+δ*y)(k2:y≤m+δ*m)(he:2*(δ+eps q)≤ε):Rel ε c y:=by
  have r1:=h.rel hq m0
  have r3:=h.2.1
  have e0:=Yf q
  have y0:0<y:=Rat.not_le.1 fun g=>by
    have:=rmL g d0
    grind
  have t1:=rmR d1 (rlL y0)
  have t2:=rmL (show m≤2*y by grind) (show 0≤δ by grind)
  have t6:=rmL (show m≤2*y by grind) (rlL e0)
  have t3:=rmR he (rlL y0)
  have t4:=rmN (rlL e0) (rlL y0)
  have t5:=rmN d0 (rlL y0)
  exact .inl ⟨by grind,by grind⟩
theorem sgn_le0{d:Dx}(h:0≤d.m):d.sgn≤0↔d.rv≤0:=by
  rcases sgn_rv h with ⟨a,b⟩|⟨a,b⟩|⟨a,b⟩
  · rw [a,b];simp
  · exact ⟨fun k=>by omega,fun k=>by exfalso;grind⟩
  · exact ⟨fun _=>rlL b,fun _=>by omega⟩
theorem sgn_ge0{d:Dx}(h:0≤d.m):0≤d.sgn↔0≤d.rv:=by
  rcases sgn_rv h with ⟨a,b⟩|⟨a,b⟩|⟨a,b⟩
  · rw [a,b];simp
  · exact ⟨fun _=>rlL b,fun _=>by omega⟩
  · exact ⟨fun k=>by omega,fun k=>by exfalso;grind⟩
theorem zeroV_rv{v:Vx}(hv:v.P):ZP v=true↔v.lo.rv≤0∧0≤v.hi.rv:=by
  unfold ZP
  rw [Bool.and_eq_true,decide_eq_true_eq,decide_eq_true_eq,sgn_le0 hv.1,sgn_ge0 hv.2]
theorem hull_lo(a b:Vx):(YP a b).lo.rv≤a.lo.rv∧(YP a b).lo.rv≤b.lo.rv∧((YP a b).lo=a.lo∨(YP a b).lo=b.lo):=by
  by_cases h:QJ b.lo a.lo<0
  · have e:(YP a b).lo=b.lo:=if_pos h
    have:=cmpD_lt0.1 h
    rw [e];exact ⟨by grind,Rat.le_refl,.inr rfl⟩
  · have e:(YP a b).lo=a.lo:=if_neg h
    have:=fun k=>h (cmpD_lt0.2 k)
    rw [e];exact ⟨Rat.le_refl,by grind,.inl rfl⟩
theorem hull_hi(a b:Vx):a.hi.rv≤(YP a b).hi.rv∧b.hi.rv≤(YP a b).hi.rv∧((YP a b).hi=a.hi∨(YP a b).hi=b.hi):=by
  by_cases h:0<QJ b.hi a.hi
  · have e:(YP a b).hi=b.hi:=if_pos h
    have:=cmpD_gt0.1 h
    rw [e];exact ⟨by grind,Rat.le_refl,.inr rfl⟩
  · have e:(YP a b).hi=a.hi:=if_neg h
    have:=fun k=>h (cmpD_gt0.2 k)
    rw [e];exact ⟨Rat.le_refl,by grind,.inl rfl⟩
structure CosB (v:Vx) (p:Int) (X Y:Vx):Prop where
  xp:X.P
  yp:Y.P
  lo:p2 (-2)≤X.lo.rv∧X.lo.rv≤p2 2
  hi:p2 (-2)≤X.hi.rv∧X.hi.rv≤p2 2
  le:X.lo.rv≤X.hi.rv
  c1:X.lo.rv≤Y.lo.rv+p2 (-24-p)*Y.lo.rv∧Y.lo.rv≤X.lo.rv+p2 (-24-p)*X.lo.rv
  c2:X.hi.rv≤Y.hi.rv+p2 (-24-p)*Y.hi.rv∧Y.hi.rv≤X.hi.rv+p2 (-24-p)*X.hi.rv
  has:∀ x a b,v.lo.rv≤x→x≤v.hi.rv→Enc (YO x) a b→X.lo.rv≤b∧a≤X.hi.rv
theorem Xy{x y:Rat}(h0:0≤x)(h:x≤y):x*x≤y*y:=by
  have a:=rmL h h0
  have b:=rmR h (show 0≤y by grind)
  grind
theorem sqr_mono'{x y:Rat}(h0:y≤0)(h:x≤y):y*y≤x*x:=by
  have:=Xy (x:=-y) (y:=-x) (by grind) (by grind)
  grind
theorem cosines_ok{v:Vx}{p:Int}(hv:v.P)(f1:Qa v.lo)(f2:Qa v.hi)(hl:v.lo.rv≤v.hi.rv)(p0:0≤p)(p1:p≤8000):CosB v p (zF (QT v) p) (zO v p):=by
  have A:=XE (t:=qC v.lo) (p:=p) zZ (Z0 hv.1 f1) p0 (by omega)
  have B:=XE (t:=qC v.hi) (p:=p) zZ (Z0 hv.2 f2) p0 (by omega)
  have C:=XF (p:=p) hv.1 f1 p0 (by omega)
  have D:=XF (p:=p) hv.2 f2 p0 (by omega)
  rw [Qs hv.1] at A
  rw [Qs hv.2] at B
  have sl:=span4_lo (qI (qC v.lo) p).lo (qI (qC v.lo) p).hi (qI (qC v.hi) p).lo (qI (qC v.hi) p).hi
  have sh:=span4_hi (qI (qC v.lo) p).lo (qI (qC v.lo) p).hi (qI (qC v.hi) p).lo (qI (qC v.hi) p).hi
  have sp:=span4_p A.1.1 A.1.2 B.1.1 B.1.2
  have hL:=hull_lo (qP v.lo p) (qP v.hi p)
  have hH:=hull_hi (qP v.lo p) (qP v.hi p)
  have z:ZP (QT v)=ZP v:=by
    unfold ZP QT
    show (decide ((qC v.lo).sgn≤0) && decide (0≤(qC v.hi).sgn))=_
    rw [one_sgn _ hv.1,one_sgn _ hv.2]
  have lo1:(zF (QT v) p).lo=(Qt (qI (qC v.lo) p).lo [(qI (qC v.lo) p).hi,(qI (qC v.hi) p).lo,(qI (qC v.hi) p).hi]).lo:=by
    unfold zF;split<;>rfl
  have lo2:(zO v p).lo=(YP (qP v.lo p) (qP v.hi p)).lo:=by
    unfold zO;split<;>rfl
  have hi1:ZP v=false→(zF (QT v) p).hi=(Qt (qI (qC v.lo) p).lo [(qI (qC v.lo) p).hi,(qI (qC v.hi) p).lo,(qI (qC v.hi) p).hi]).hi:=fun h=>by
    unfold zF;rw [z,h];rfl
  have hi2:ZP v=false→(zO v p).hi=(YP (qP v.lo p) (qP v.hi p)).hi:=fun h=>by
    unfold zO;rw [h];rfl
  have hz1:ZP v=true→(zF (QT v) p).hi=mkS 1 0:=fun h=>by
    unfold zF;rw [z,h];rfl
  have hz2:ZP v=true→(zO v p).hi=mkS 1 0:=fun h=>by
    unfold zO;rw [h];rfl
  have r:(mkS 1 0).rv=1:=rv_int 1
  have dd:p2 (-40-p)≤p2 (-24-p):=Qz (by omega)
  have d0:=rlL (qL (-24-p))
  have nA:=A.2.2.nar.mono dd
  have nB:=B.2.2.nar.mono dd
  have nC:=C.2.2.nar
  have nD:=D.2.2.nar
  have x1:=A.2.1.meets C.2.1
  have x2:=C.2.1.meets A.2.1
  have x3:=B.2.1.meets D.2.1
  have x4:=D.2.1.meets B.2.1
  have lA:=A.2.2.lo
  have hA:=A.2.2.hi
  have lB:=B.2.2.lo
  have hB:=B.2.2.hi
  have mm:=sl.2.2.2.2
  have MM:=sh.2.2.2.2
  have one1:p2 (-2)≤1∧(1:Rat)≤p2 2:=by
    have a:=Qz (show (-2:Int)≤0 by omega)
    have b:=Qz (show (0:Int)≤2 by omega)
    rw [ZX] at a b
    exact ⟨a,b⟩
  have bdA:=(cosS_bd f1.2 f1.1 A.2.1).1
  have min:=min_close (m:=(Qt (qI (qC v.lo) p).lo [(qI (qC v.lo) p).hi,(qI (qC v.hi) p).lo,(qI (qC v.hi) p).hi]).lo.rv) (y:=(YP (qP v.lo p) (qP v.hi p)).lo.rv) nA nB nC nD x1 x2 x3 x4 sl.1 sl.2.2.1 (by rcases mm with e | e | e | e<;>rw [e]<;>simp) hL.1 hL.2.1 (by rcases hL.2.2 with e | e<;>rw [e]<;>simp)
  have max:=max_close (m:=(Qt (qI (qC v.lo) p).lo [(qI (qC v.lo) p).hi,(qI (qC v.hi) p).lo,(qI (qC v.hi) p).hi]).hi.rv) (y:=(YP (qP v.lo p) (qP v.hi p)).hi.rv) d0 nA nB nC nD x1 x2 x3 x4 sh.2.1 sh.2.2.2.1 (by rcases MM with e | e | e | e<;>rw [e]<;>simp) hH.1 hH.2.1 (by rcases hH.2.2 with e | e<;>rw [e]<;>simp)
  have X0:=nA.2.1
  have X1:=nB.2.1
  have Lo:p2 (-2)≤(zF (QT v) p).lo.rv∧(zF (QT v) p).lo.rv≤p2 2:=by
    rw [lo1]
    refine ⟨?_,by grind⟩
    rcases mm with e | e | e | e<;>rw [e]<;>grind
  have q1:Qa v.lo:=f1
  refine ⟨⟨by rw [lo1];exact sp.1,?_⟩,⟨?_,?_⟩,Lo,?_,?_,by rw [lo1,lo2];exact min,?_,?_⟩
  · cases h:ZP v with
    | true=>rw [hz1 h];exact mkS_p
    | false=>rw [hi1 h];exact sp.2
  · rw [lo2]
    rcases hL.2.2 with e | e<;>rw [e]
    · exact C.1.p.1
    · exact D.1.p.1
  · cases h:ZP v with
    | true=>rw [hz2 h];exact mkS_p
    | false =>
      rw [hi2 h]
      rcases hH.2.2 with e | e<;>rw [e]
      · exact C.1.p.2
      · exact D.1.p.2
  · cases h:ZP v with
    | true=>rw [hz1 h,r];exact one1
    | false =>
      rw [hi1 h]
      refine ⟨by grind,?_⟩
      rcases MM with e | e | e | e<;>rw [e]<;>grind
  · cases h:ZP v with
    | true=>rw [hz1 h,r,lo1];grind
    | false=>rw [hi1 h,lo1];grind
  · cases h:ZP v with
    | true=>rw [hz1 h,hz2 h,r];exact ⟨by grind,by grind⟩
    | false=>rw [hi1 h,hi2 h];exact max
  · intro x a b h1 h2 E
    have b1:x*x≤1:=Xl (by have:=f2.1;grind) (by have:=f1.2;grind)
    have c1:v.lo.rv*v.lo.rv≤1:=Xl f1.1 f1.2
    have c2:v.hi.rv*v.hi.rv≤1:=Xl f2.1 f2.2
    refine ⟨?_,?_⟩
    · rw [lo1]
      rcases (show 0≤x∨x≤0 by grind) with g | g
      · have:=B.2.1.le E (fun n=>Z3 (Xy g h2) c2 n)
        grind
      · have:=A.2.1.le E (fun n=>Z3 (sqr_mono' g h1) c1 n)
        grind
    · cases h:ZP v with
      | true =>
        rw [hz1 h,r]
        exact (cosS_bd (t:=x) (by have:=f1.2;grind) (by have:=f2.1;grind) E).1
      | false =>
        rw [hi1 h]
        rcases (show 0<v.lo.rv∨v.hi.rv<0 by
          have:=fun k=>(by rw [(zeroV_rv hv).2 k] at h;exact absurd h (by simp):False)
          grind) with g | g
        · have:=E.le A.2.1 (fun n=>Z3 (Xy (rlL g) h1) b1 n)
          grind
        · have:=E.le B.2.1 (fun n=>Z3 (sqr_mono' (rlL g) h2) b1 n)
          grind
theorem fits_end{d:Dx}{q:Int}{up:Bool}{x:Rat}(hd:0≤d.m)(h:Rp q (cutD d q up).rv)(q0:1≤q)(q1:q≤8000)(x0:p2 (-3)≤x)(x1:x≤p2 3)(e:(cutD d q up).rv=x):(cutD d q up).fitsB=true:=by
  have p:=qL (-3)
  have a:=(QX (d:=cutD d q up) Y8).1 (by rw [e];grind)
  rw [e] at a
  exact fits_rp (YI hd) h (by omega) (fun _=>by rw [←a];exact x0) (by rw [←a];exact x1) (by omega) (by omega)
theorem cos_cut{v:Vx}{p:Int}{X Y:Vx}(K:CosB v p X Y)(p0:0≤p)(p1:p≤7000) :
    qT (qV X (p+8))=true∧Rel (p2 (2-p)) (qV X (p+8)).lo.rv Y.lo.rv∧Rel (p2 (2-p)) (qV X (p+8)).hi.rv Y.hi.rv∧(qV X (p+8)).lo.rv≤X.lo.rv∧X.hi.rv≤(qV X (p+8)).hi.rv:=by
  obtain ⟨b1,b2⟩:=Zr K.xp (p:=p+8) (by omega)
  have q2:=qL (-2)
  have r1:=b1.rel (by omega) (show 0<X.lo.rv by have:=K.lo.1;grind)
  have r2:=b2.rel (by omega) (show 0<X.hi.rv by have:=K.hi.1;grind)
  have e:eps (p+8)=p2 (-7-p):=by unfold eps;congr 1;omega
  have e1:eps (p+8)≤p2 (-1):=by rw [e];exact Qz (by omega)
  have hf:=ZJ (-1)
  rw [show (-1+1:Int)=0 by omega,ZX] at hf
  have t1:=rmR e1 (show 0≤X.lo.rv by have:=K.lo.1;grind)
  have t2:=rmR e1 (show 0≤X.hi.rv by have:=K.hi.1;grind)
  have h3:=ZJ (-3)
  rw [show (-3+1:Int) = -2 by omega] at h3
  have h2:=ZJ 2
  rw [show (2+1:Int)=3 by omega] at h2
  have g23:p2 2≤p2 3:=Qz (by omega)
  have l1:=K.lo.1
  have l2:=K.lo.2
  have l3:=K.hi.1
  have l4:=K.hi.2
  have hl:=b1.2.1
  have hh:=b2.2.1
  have x2:p2 (-1)*X.lo.rv+p2 (-1)*X.lo.rv=X.lo.rv:=by grind
  have x3:p2 (-1)*X.hi.rv+p2 (-1)*X.hi.rv=X.hi.rv:=by grind
  have f1:(qV X (p+8)).lo.fitsB=true:=fits_end K.xp.1 b1.1 (by omega) (by omega) (x:=(qV X (p+8)).lo.rv) (by grind) (by grind) rfl
  have f2:(qV X (p+8)).hi.fitsB=true:=fits_end K.xp.2 b2.1 (by omega) (by omega) (x:=(qV X (p+8)).hi.rv) (by grind) (by grind) rfl
  have d0:=rlL (qL (-24-p))
  have d1:p2 (-24-p)≤1:=by have:=Qz (show -24-p≤0 by omega);rwa [ZX] at this
  have he:2*(p2 (-24-p)+eps (p+8))≤p2 (2-p):=by
    have a:=Qz (show -24-p≤-7-p by omega)
    have b:=p2_dbl (-7-p)
    have c:=ZJ (-7-p+1)
    have d:=Qz (show -7-p+1+1≤2-p by omega)
    rw [e];grind
  exact ⟨right_of f1 f2 (by have:=K.le;grind),dn_close b1 (by omega) (by grind) d0 d1 K.c1.1 K.c1.2 he,up_close b2 (by omega) (by grind) d0 d1 K.c2.1 K.c2.2 he,hl,hh⟩
theorem altS2_anti{x y:Rat}(x0:0≤x)(h:x≤y)(h1:y≤1)(n:Nat):altS 2 y n≤altS 2 x n:=by
  have m0:∀ u:Rat,6*tmf 2 u 1=u:=fun u=>by
    have:=tmf_mul (f:=2) (by omega) u 0
    have e1:((2+2*0:Nat):Rat)*((2+2*0+1:Nat):Rat)=6:=by decide +kernel
    rw [e1] at this
    rw [this];show u*1=u;grind
  have p:Pair (fun k=>((2+2*(k+1):Nat):Rat)*((2+2*(k+1)+1:Nat):Rat)) (fun k=>tmf 2 y (k+1)) (fun k=>tmf 2 x (k+1)) y x :=
    { c6:=fun k=>coef6 (by omega) (by omega),a1:=fun k=>tmf_mul (f:=2) (by omega) y (k+1),b1:=fun k=>tmf_mul (f:=2) (by omega) x (k+1),
      y0:=x0,yx:=h,x1:=h1,b0:=by have:=m0 x;show 0≤tmf 2 x 1;grind,d0:=by have:=m0 x;have:=m0 y;show tmf 2 x 1≤tmf 2 y 1;grind,
      i:=by
        have a:=m0 x
        have b:=m0 y
        show tmf 2 x 1*(y-x)≤2*(tmf 2 y 1-tmf 2 x 1)
        have c:=rmR (show tmf 2 x 1≤1/6 by grind) (show 0≤y-x by grind)
        grind }
  have e:∀ u:Rat,altS 2 u n=Qg (fun k=>alt k*tmf 2 u k) n:=fun u=>rfl
  cases n with
  | zero=>exact Rat.le_refl
  | succ n =>
    rw [e,e,Ys,Ys]
    have q:=p.le n
    have g:∀ u:Rat,Qg (fun i=>alt (i+1)*tmf 2 u (i+1)) n = -1*Qg (fun i=>alt i*tmf 2 u (i+1)) n:=fun u=>by
      rw [←YH];exact Q8 fun i _=>by rw [alt_succ];grind
    rw [g,g]
    show alt 0*1+_≤alt 0*1+_
    grind
theorem sin_ratio{a b:Rat}(a0:0≤a)(h:a≤b)(h1:b≤1)(n:Nat):a*Yt b n≤b*Yt a n:=by
  have b0:0≤b:=by grind
  have b1:b*b≤1:=by have:=rmL h1 b0;grind
  have m:=altS2_anti (x:=a*a) (y:=b*b) (rmN a0 a0) (Xy a0 h) b1 n
  rw [sinS_alt,sinS_alt]
  have:=rmL m (rmN a0 b0)
  grind
theorem cos_diff{s t:Rat}(h:s*s≤t*t)(h1:t*t≤1)(n:Nat):YO s n-YO t n≤(t*t-s*s)/2:=by
  have s0:0≤s*s:=by
    rcases (show 0≤s∨s≤0 by grind) with a | a
    · exact rmN a a
    · have:=rmN (show 0≤-s by grind) (show 0≤-s by grind);grind
  have m0:∀ u:Rat,2*tmf 1 u 1=u:=fun u=>by
    have:=tmf_mul (f:=1) (by omega) u 0
    have e1:((1+2*0:Nat):Rat)*((1+2*0+1:Nat):Rat)=2:=by decide +kernel
    rw [e1] at this
    rw [this];show u*1=u;grind
  have p:Pair (fun k=>((1+2*(k+1):Nat):Rat)*((1+2*(k+1)+1:Nat):Rat)) (fun k=>tmf 1 (t*t) (k+1)) (fun k=>tmf 1 (s*s) (k+1)) (t*t) (s*s) :=
    { c6:=fun k=>coef6 (by omega) (by omega),a1:=fun k=>tmf_mul (f:=1) (by omega) (t*t) (k+1),b1:=fun k=>tmf_mul (f:=1) (by omega) (s*s) (k+1),
      y0:=s0,yx:=h,x1:=h1,b0:=by have:=m0 (s*s);show 0≤tmf 1 (s*s) 1;grind,d0:=by have:=m0 (s*s);have:=m0 (t*t);show tmf 1 (s*s) 1≤tmf 1 (t*t) 1;grind,
      i:=by
        have a:=m0 (s*s)
        have b:=m0 (t*t)
        show tmf 1 (s*s) 1*(t*t-s*s)≤2*(tmf 1 (t*t) 1-tmf 1 (s*s) 1)
        have c:=rmR (show tmf 1 (s*s) 1≤1 by grind) (show 0≤t*t-s*s by grind)
        grind }
  have dn:∀ k,0≤tmf 1 (t*t) (k+1)-tmf 1 (s*s) (k+1):=fun k=>by have:=(p.ind k).2.1;grind
  have key:∀ m,Qg (fun k=>alt k*(tmf 1 (t*t) (k+1)-tmf 1 (s*s) (k+1))) m≤tmf 1 (t*t) 1-tmf 1 (s*s) 1:=fun m=>by
    cases m with
    | zero=>exact dn 0
    | succ m =>
      rw [Ys]
      have q:=alt_sum_nonneg (D:=fun k=>tmf 1 (t*t) (k+1+1)-tmf 1 (s*s) (k+1+1)) (fun k=>dn (k+1)) (fun k=>p.half (k+1)) m
      have g:Qg (fun i=>alt (i+1)*(tmf 1 (t*t) (i+1+1)-tmf 1 (s*s) (i+1+1))) m = -1*Qg (fun i=>alt i*(tmf 1 (t*t) (i+1+1)-tmf 1 (s*s) (i+1+1))) m:=by
        rw [←YH];exact Q8 fun i _=>by rw [alt_succ];grind
      rw [g]
      show alt 0*(tmf 1 (t*t) 1-tmf 1 (s*s) 1)+_≤_
      have a0:alt 0=1:=rfl
      rw [a0];grind
  have e:∀ u:Rat,YO u n=Qg (fun k=>alt k*tmf 1 (u*u) k) n:=fun u=>cosS_alt u n
  have m1:=m0 (s*s)
  have m2:=m0 (t*t)
  cases n with
  | zero =>
    have z:∀ u:Rat,YO u 0=0:=fun _=>rfl
    rw [z,z];grind
  | succ n =>
    rw [e,e,Ys,Ys]
    have g:∀ u:Rat,Qg (fun i=>alt (i+1)*tmf 1 u (i+1)) n = -1*Qg (fun i=>alt i*tmf 1 u (i+1)) n:=fun u=>by
      rw [←YH];exact Q8 fun i _=>by rw [alt_succ];grind
    rw [g,g]
    have q:=key n
    have e2:Qg (fun k=>alt k*(tmf 1 (t*t) (k+1)-tmf 1 (s*s) (k+1))) n=Qg (fun k=>alt k*tmf 1 (t*t) (k+1)) n + -1*Qg (fun k=>alt k*tmf 1 (s*s) (k+1)) n:=by
      rw [←YH,←sumTo_add];exact Q8 fun i _=>by grind
    rw [e2] at q
    show (alt 0*1+_)-(alt 0*1+_)≤_
    grind
theorem sin_nar{a b l1 h1 l2 h2 δ ε:Rat}(hab:Nar δ a b)(b1:b≤1)(e1:Enc (Yt a) l1 h1)(e2:Enc (Yt b) l2 h2)(n1:Nar ε l1 h1)(n2:Nar ε l2 h2)(d0:0≤δ)(d1:δ≤1/8)(f0:0≤ε)(f1:ε≤1/8):Nar (2*δ+4*ε) l1 h2:=by
  obtain ⟨a0,ab,bd⟩:=hab
  obtain ⟨x0,x1,x2⟩:=n1
  obtain ⟨y0,y1,y2⟩:=n2
  have r:a*l2≤b*h1:=Enc.le (e2.scale (c:=a) (by grind)) (e1.scale (c:=b) (by grind)) (fun n=>sin_ratio (by grind) ab b1 n)
  have m:l1≤h2:=Enc.le e1 e2 (fun n=>sinS_mono (by grind) ab b1 n)
  refine ⟨x0,m,?_⟩
  have s1:=rmR bd (show 0≤h1 by grind)
  have s2:=rmL x2 (show 0≤a+δ*a by have:=rmN d0 (rlL a0);grind)
  have t:l2≤(1+δ)*(l1+ε*l1):=by
    rw [←Rat.not_lt];intro hlt
    have:=Rat.mul_lt_mul_of_pos_left hlt a0
    grind
  have u0:=rmN f0 (rlL x0)
  have u1:=rmR f1 (show 0≤l2 by grind)
  have v1:=rmL t f0
  have w1:=rmR d1 u0
  have w2:=rmR f1 u0
  have w3:=rmR f1 (rmN d0 (rlL x0))
  have w4:=rmN d0 (rlL x0)
  have w5:=rmL w2 d0
  have w6:=rmL w2 (Rat.le_refl (a:=0))
  have w7:=rmN d0 u0
  have w8:=rmR f1 w7
  grind
def VN(δ:Rat)(v:Vx):Prop:=(v.lo.rv=0∧v.hi.rv=0)∨NarV δ v
structure SinB (δ L H:Rat) (v X:Vx):Prop where
  p:X.P
  vm:VM δ L H X
  has:∀ x a b,v.lo.rv≤x→x≤v.hi.rv→Enc (Yt x) a b→X.lo.rv≤b∧a≤X.hi.rv
theorem sinS_bd'{t:Rat}(t0:t<0)(t1:-1≤t){a b:Rat}(h:Enc (Yt t) a b):a<0:=by
  have e:(fun n=>-Yt t n)=Yt (-t):=by funext n;rw [sinS_neg]
  have k:=h.neg
  rw [e] at k
  have:=(sinS_bd (t:=-t) (by grind) (by grind) k).2
  have m:=rmL (show (-t)*(-t)≤1 by have:=rmL (show -t≤1 by grind) (show 0≤-t by grind);grind) (show 0≤-t by grind)
  grind
theorem sinS_bd0{t:Rat}(t0:0<t)(t1:t≤1){a b:Rat}(h:Enc (Yt t) a b):0<b:=by
  have:=(sinS_bd t0 t1 h).2
  have m:=rmL (show t*t≤1 by have:=rmL t1 (show 0≤t by grind);grind) (show 0≤t by grind)
  grind
theorem sines_nar{v:Vx}{p:Int}{δ:Rat}{A:Int}(hv:v.P)(f1:Qa v.lo)(f2:Qa v.hi)(hn:NarV δ v)(hA:p2 A≤v.lo.rv∨p2 A≤-v.hi.rv)(d0:0≤δ)(d1:δ≤1/8)(p0:0≤p)(p1:p≤8000) :
    SinB (2*δ+4*p2 (-36-p)) (p2 (A-4)) (p2 4) v (ZA (QT v) p):=by
  have qA:=qL A
  have r1:(qC v.lo).rv=v.lo.rv:=Qs hv.1
  have r2:(qC v.hi).rv=v.hi.rv:=Qs hv.2
  obtain ⟨a1,a2⟩:=QX (d:=qC v.lo) zZ
  obtain ⟨b1,b2⟩:=QX (d:=qC v.hi) zZ
  rw [r1] at a1 a2
  rw [r2] at b1 b2
  have w:p2 (-36-p)≤1/8:=by
    have:=Qz (show -36-p≤-3 by omega)
    have e:p2 (-3)=1/8:=by decide +kernel
    grind
  have w0:=rlL (qL (-36-p))
  have key:∀ {a b l1 h1 l2 h2:Rat},Nar δ a b→b≤1→Enc (Yt a) l1 h1→Enc (Yt b) l2 h2→NM (p2 (-36-p)) (p2 (A-4)) (p2 4) l1 h1→NM (p2 (-36-p)) (p2 (A-4)) (p2 4) l2 h2→NM (2*δ+4*p2 (-36-p)) (p2 (A-4)) (p2 4) l1 h2:=fun n hb e1 e2 n1 n2 =>
    ⟨n1.L0,n1.lo,n2.hi,sin_nar n hb e1 e2 n1.nar n2.nar d0 d1 w0 w⟩
  have lo_ne:v.lo.rv≠0∧v.hi.rv≠0∧p2 A≤((qC v.lo).m:Rat)*p2 (qC v.lo).e∧p2 A≤((qC v.hi).m:Rat)*p2 (qC v.hi).e:=by
    rcases hn with ⟨n0,n1,n2⟩|⟨n0,n1,n2⟩
    · have h:p2 A≤v.lo.rv:=by rcases hA with h | h<;>grind
      exact ⟨by grind,by grind,by rw [←a1 (by grind)];exact h,by rw [←b1 (by grind)];grind⟩
    · have h:p2 A≤-v.hi.rv:=by rcases hA with h | h<;>grind
      exact ⟨by grind,by grind,by rw [←a2 (by grind)];grind,by rw [←b2 (by grind)];exact h⟩
  obtain ⟨z1,z2,m1,m2⟩:=lo_ne
  have P:=sineV_iv (t:=qC v.lo) (p:=p) zZ (Z0 hv.1 f1) (by rw [r1];exact z1) m1 p0 (by omega)
  have Q:=sineV_iv (t:=qC v.hi) (p:=p) zZ (Z0 hv.2 f2) (by rw [r2];exact z2) m2 p0 (by omega)
  rw [r1] at P
  rw [r2] at Q
  obtain ⟨P1,P2,P3⟩:=P
  obtain ⟨Q1,Q2,Q3⟩:=Q
  have hl:v.lo.rv≤v.hi.rv:=by
    rcases hn with ⟨_,n1,_⟩|⟨_,n1,_⟩
    · exact n1
    · grind
  refine ⟨⟨P1.1,Q1.2⟩,?_,fun x a b x1 x2 E=>⟨P2.le E fun n=>sinS_mono f1.2 x1 (Rat.le_trans x2 f2.1) n,E.le Q2 fun n=>sinS_mono (Rat.le_trans f1.2 x1) x2 f2.1 n⟩⟩
  show NM _ _ _ (Zf (qC v.lo) p).lo.rv (Zf (qC v.hi) p).hi.rv∨NM _ _ _ (-(Zf (qC v.hi) p).hi.rv) (-(Zf (qC v.lo) p).lo.rv)
  rcases hn with n | n
  · obtain ⟨n0,n1,n2⟩:=n
    have s1:=sinS_bd0 n0 f1.1 P2
    have s2:=sinS_bd0 (show 0<v.hi.rv by grind) f2.1 Q2
    have g1:NM (p2 (-36-p)) (p2 (A-4)) (p2 4) (Zf (qC v.lo) p).lo.rv (Zf (qC v.lo) p).hi.rv:=by
      rcases P3 with h | h
      · exact h
      · exfalso;have:=h.nar.1;grind
    have g2:NM (p2 (-36-p)) (p2 (A-4)) (p2 4) (Zf (qC v.hi) p).lo.rv (Zf (qC v.hi) p).hi.rv:=by
      rcases Q3 with h | h
      · exact h
      · exfalso;have:=h.nar.1;grind
    exact .inl (key ⟨n0,n1,n2⟩ f2.1 P2 Q2 g1 g2)
  · obtain ⟨n0,n1,n2⟩:=n
    have s1:=sinS_bd' (show v.lo.rv<0 by grind) f1.2 P2
    have s2:=sinS_bd' (show v.hi.rv<0 by grind) f2.2 Q2
    have g1:NM (p2 (-36-p)) (p2 (A-4)) (p2 4) (-(Zf (qC v.lo) p).hi.rv) (-(Zf (qC v.lo) p).lo.rv):=by
      rcases P3 with h | h
      · exfalso;have:=h.nar.1;grind
      · exact h
    have g2:NM (p2 (-36-p)) (p2 (A-4)) (p2 4) (-(Zf (qC v.hi) p).hi.rv) (-(Zf (qC v.hi) p).lo.rv):=by
      rcases Q3 with h | h
      · exfalso;have:=h.nar.1;grind
      · exact h
    have P2':=P2.neg
    have Q2':=Q2.neg
    rw [show (fun n=>-Yt v.lo.rv n)=Yt (-v.lo.rv) by funext n;rw [sinS_neg]] at P2'
    rw [show (fun n=>-Yt v.hi.rv n)=Yt (-v.hi.rv) by funext n;rw [sinS_neg]] at Q2'
    exact .inr (key (a:=-v.hi.rv) (b:=-v.lo.rv) ⟨n0,n1,n2⟩ (by have:=f1.2;grind) Q2' P2' g2 g1)
theorem cos_gap{a b δ:Rat}(hn:Nar δ a b)(h1:b≤1)(d0:0≤δ)(n:Nat):YO a n-YO b n≤δ:=by
  obtain ⟨a0,ab,bd⟩:=hn
  have b1:b*b≤1:=by have:=rmL h1 (show 0≤b by grind);grind
  have c:=cos_diff (Xy (rlL a0) ab) b1 n
  have m1:=rmR (show b-a≤δ*a by grind) (show 0≤b+a by grind)
  have m2:=rmR (show a≤1 by grind) (show 0≤b+a by grind)
  have m3:=rmL (show a*(b+a)≤2 by grind) d0
  grind
theorem gap_enc{s t:Nat→Rat}{a b c d δ:Rat}(h:Enc s a b)(k:Enc t c d)(g:∀ n,s n-t n≤δ):a-d≤δ:=by
  have e:=h.add k.neg
  have:=e.le (Enc.const δ) (fun n=>by have:=g n;show s n + -t n≤δ;grind)
  grind
theorem cosines_nar{v:Vx}{p:Int}{δ:Rat}(hv:v.P)(f1:Qa v.lo)(f2:Qa v.hi)(hn:VN δ v)(d0:0≤δ)(p0:0≤p)(p1:p≤8000) :
    NM (4*δ+32*p2 (-40-p)) (p2 (-2)) (p2 2) (zF (QT v) p).lo.rv (zF (QT v) p).hi.rv:=by
  have hl:v.lo.rv≤v.hi.rv:=by
    rcases hn with ⟨a,b⟩|⟨_,n1,_⟩|⟨_,n1,_⟩
    · rw [a,b];exact Rat.le_refl
    · exact n1
    · grind
  have K:=cosines_ok (p:=p) hv f1 f2 hl p0 p1
  have A:=XE (t:=qC v.lo) (p:=p) zZ (Z0 hv.1 f1) p0 (by omega)
  have B:=XE (t:=qC v.hi) (p:=p) zZ (Z0 hv.2 f2) p0 (by omega)
  rw [Qs hv.1] at A
  rw [Qs hv.2] at B
  obtain ⟨_,A2,A3⟩:=A
  obtain ⟨_,B2,B3⟩:=B
  have w0:=rlL (qL (-40-p))
  have q2:p2 2=4:=by decide +kernel
  have qm:p2 (-2)=1/4:=by decide +kernel
  have aw:=A3.nar.2.2
  have bw:=B3.nar.2.2
  have al:=A3.nar.2.1
  have bl:=B3.nar.2.1
  have ah:=A3.hi
  have bh:=B3.hi
  have m1:=rmL (show (qI (qC v.lo) p).lo.rv≤4 by grind) w0
  have m2:=rmL (show (qI (qC v.hi) p).lo.rv≤4 by grind) w0
  have g:(qI (qC v.lo) p).lo.rv-(qI (qC v.hi) p).hi.rv≤δ∧(qI (qC v.hi) p).lo.rv-(qI (qC v.lo) p).hi.rv≤δ:=by
    rcases hn with ⟨a,b⟩ | n | n
    · rw [a] at A2
      rw [b] at B2
      have:=A2.meets B2
      have:=B2.meets A2
      constructor<;>grind
    · have x:=gap_enc A2 B2 (cos_gap n f2.1 d0)
      have y:=B2.le A2 fun k=>Z3 (Xy (rlL n.1) n.2.1) (Xl f2.1 f2.2) k
      exact ⟨x,by grind⟩
    · have A2':Enc (YO (-v.lo.rv)) (qI (qC v.lo) p).lo.rv (qI (qC v.lo) p).hi.rv:=by
        rw [show YO (-v.lo.rv)=YO v.lo.rv by funext k;rw [cosS_neg]];exact A2
      have B2':Enc (YO (-v.hi.rv)) (qI (qC v.hi) p).lo.rv (qI (qC v.hi) p).hi.rv:=by
        rw [show YO (-v.hi.rv)=YO v.hi.rv by funext k;rw [cosS_neg]];exact B2
      have x:=gap_enc B2' A2' (cos_gap n (by have:=f1.2;grind) d0)
      have y:=A2'.le B2' fun k=>Z3 (Xy (rlL n.1) n.2.1) (Xl (by have:=f1.2;grind) (by have:=f1.1;grind)) k
      exact ⟨by grind,x⟩
  have sl:=span4_lo (qI (qC v.lo) p).lo (qI (qC v.lo) p).hi (qI (qC v.hi) p).lo (qI (qC v.hi) p).hi
  have sh:=span4_hi (qI (qC v.lo) p).lo (qI (qC v.lo) p).hi (qI (qC v.hi) p).lo (qI (qC v.hi) p).hi
  have lo1:(zF (QT v) p).lo=(Qt (qI (qC v.lo) p).lo [(qI (qC v.lo) p).hi,(qI (qC v.hi) p).lo,(qI (qC v.hi) p).hi]).lo:=by
    unfold zF;split<;>rfl
  have z:ZP (QT v)=ZP v:=by
    unfold ZP QT
    show (decide ((qC v.lo).sgn≤0) && decide (0≤(qC v.hi).sgn))=_
    rw [one_sgn _ hv.1,one_sgn _ hv.2]
  have wide:(zF (QT v) p).hi.rv-(zF (QT v) p).lo.rv≤δ+8*p2 (-40-p):=by
    rw [lo1]
    have mm:=sl.2.2.2.2
    cases h:ZP v with
    | true =>
      have e:(zF (QT v) p).hi=mkS 1 0:=by unfold zF;rw [z,h];rfl
      obtain ⟨zl,zh⟩:=(zeroV_rv hv).1 h
      have zz:v.lo.rv=0∧v.hi.rv=0:=by
        rcases hn with n | ⟨n0,_,_⟩|⟨n0,_,_⟩
        · exact n
        · exfalso;grind
        · exfalso;grind
      rw [e,show (mkS 1 0).rv=1 from rv_int 1]
      rw [zz.1] at A2
      rw [zz.2] at B2
      have ca:=(cosS_bd (t:=0) (by decide) (by decide) A2).2
      have cb:=(cosS_bd (t:=0) (by decide) (by decide) B2).2
      rcases mm with e | e | e | e<;>rw [e]<;>grind
    | false =>
      have e:(zF (QT v) p).hi=(Qt (qI (qC v.lo) p).lo [(qI (qC v.lo) p).hi,(qI (qC v.hi) p).lo,(qI (qC v.hi) p).hi]).hi:=by
        unfold zF;rw [z,h];rfl
      rw [e]
      have MM:=sh.2.2.2.2
      rcases MM with e | e | e | e<;>rw [e]<;>rcases mm with e' | e' | e' | e'<;>rw [e']<;>grind
  have lo:=K.lo
  have hi:=K.hi
  have le:=K.le
  rw [qm] at lo
  have m3:=rmL lo.1 (show 0≤4*δ+32*p2 (-40-p) by grind)
  exact ⟨qL _,K.lo.1,K.hi.2,by grind,le,by grind⟩
theorem Enc.mid{s t u:Nat→Rat}{a b c d:Rat}(h:Enc s a b)(k:Enc t c d)(h1:∀ n,s n≤u n)(h2:∀ n,u n≤t n):Enc u a d:=fun e he=>by
  obtain ⟨N,x⟩:=h e he
  obtain ⟨M,y⟩:=k e he
  refine ⟨max N M,fun n hn=>?_⟩
  have:=x n (by omega)
  have:=y n (by omega)
  have:=h1 n
  have:=h2 n
  constructor<;>grind
theorem sineH_enc{t:Dx}{p:Int}(ht:0≤t.m)(h1:Qa t)(p0:0≤p)(p1:p≤60000):(QG t p).P∧Enc (Yt t.rv) (QG t p).lo.rv (QG t p).hi.rv:=by
  by_cases h0:t.rv=0
  · have e:QG t p=zeroIv:=by rw [QG,if_pos ((sine_zero ht).2 h0)]
    have z:zeroIv.lo.rv=0:=Z2
    have z':zeroIv.hi.rv=0:=Z2
    rw [e,h0,z,z']
    exact ⟨⟨Int.le_refl _,Int.le_refl _⟩,enc_sin0⟩
  · obtain ⟨a1,a2⟩:=QX ht
    have pos:0<(t.m:Rat)*p2 t.e:=by
      rcases (show 0<t.rv∨t.rv<0 by grind) with s | s
      · rw [←a1 (by grind)];exact s
      · rw [←a2 (by grind)];grind
    obtain ⟨k,k1,_⟩:=log2_ex pos
    have V:=sineH_iv ht h1 h0 k1 p0 p1
    exact ⟨V.1,V.2.1⟩
theorem sinesH_enc{v:Vx}{p:Int}(hv:v.P)(f1:Qa v.lo)(f2:Qa v.hi)(p0:0≤p)(p1:p≤60000):(ZN v p).P∧∀ x,v.lo.rv≤x→x≤v.hi.rv→Enc (Yt x) (ZN v p).lo.rv (ZN v p).hi.rv:=by
  have A:=sineH_enc (p:=p) hv.1 f1 p0 p1
  have B:=sineH_enc (p:=p) hv.2 f2 p0 p1
  exact ⟨⟨A.1.1,B.1.2⟩,fun x x1 x2=>A.2.mid B.2 (fun n=>sinS_mono f1.2 x1 (Rat.le_trans x2 f2.1) n) fun n=>sinS_mono (Rat.le_trans f1.2 x1) x2 f2.1 n⟩
theorem cos_over{v:Vx}(hv:v.P)(f1:Qa v.lo)(f2:Qa v.hi){a b c d lo hi:Rat}(A:Enc (YO v.lo.rv) a b)(B:Enc (YO v.hi.rv) c d)(l1:lo≤a)(l2:lo≤c)(h:(ZP v=true∧hi=1)∨(ZP v=false∧b≤hi∧d≤hi)){x:Rat}(x1:v.lo.rv≤x)(x2:x≤v.hi.rv):Enc (YO x) lo hi:=by
  have b1:x*x≤1:=Xl (by have:=f2.1;grind) (by have:=f1.2;grind)
  have c1:v.lo.rv*v.lo.rv≤1:=Xl f1.1 f1.2
  have c2:v.hi.rv*v.hi.rv≤1:=Xl f2.1 f2.2
  have x0:0≤x*x:=by
    rcases (show 0≤x∨x≤0 by grind) with g | g
    · exact rmN g g
    · have:=rmN (show 0≤-x by grind) (show 0≤-x by grind);grind
  have Z:∀ n,YO x n≤YO 0 n:=fun n=>Z3 (by rw [Rat.zero_mul];exact x0) b1 n
  have low:∃ s e,Enc s lo e∧∀ n,s n≤YO x n:=by
    rcases (show 0≤x∨x≤0 by grind) with g | g
    · exact ⟨_,d,B.wide l2 Rat.le_refl,fun n=>Z3 (Xy g x2) c2 n⟩
    · exact ⟨_,b,A.wide l1 Rat.le_refl,fun n=>Z3 (sqr_mono' g x1) c1 n⟩
  obtain ⟨s,e,E,Es⟩:=low
  rcases h with ⟨hz,rfl⟩|⟨hz,h1,h2⟩
  · exact E.mid enc_cos0 Es Z
  · rcases (show 0<v.lo.rv∨v.hi.rv<0 by
      have:=fun k=>(by rw [(zeroV_rv hv).2 k] at hz;exact absurd hz (by simp):False)
      grind) with g | g
    · exact E.mid (A.wide Rat.le_refl h1) Es fun n=>Z3 (Xy (rlL g) x1) b1 n
    · exact E.mid (B.wide Rat.le_refl h2) Es fun n=>Z3 (sqr_mono' (rlL g) x2) b1 n
theorem cosinesH_enc{v:Vx}{p:Int}(hv:v.P)(f1:Qa v.lo)(f2:Qa v.hi)(p0:0≤p)(p1:p≤60000):(zO v p).P∧∀ x,v.lo.rv≤x→x≤v.hi.rv→Enc (YO x) (zO v p).lo.rv (zO v p).hi.rv:=by
  have A:=XF (p:=p) hv.1 f1 p0 p1
  have B:=XF (p:=p) hv.2 f2 p0 p1
  have hL:=hull_lo (qP v.lo p) (qP v.hi p)
  have hH:=hull_hi (qP v.lo p) (qP v.hi p)
  have lo2:(zO v p).lo=(YP (qP v.lo p) (qP v.hi p)).lo:=by
    unfold zO;split<;>rfl
  have hh:(ZP v=true∧(zO v p).hi=mkS 1 0)∨(ZP v=false∧(zO v p).hi=(YP (qP v.lo p) (qP v.hi p)).hi):=by
    unfold zO
    cases h:ZP v
    · exact .inr ⟨rfl,rfl⟩
    · exact .inl ⟨rfl,rfl⟩
  refine ⟨⟨?_,?_⟩,fun x x1 x2=>cos_over hv f1 f2 A.2.1 B.2.1 (by rw [lo2];exact hL.1) (by rw [lo2];exact hL.2.1) ?_ x1 x2⟩
  · rw [lo2]
    rcases hL.2.2 with e | e<;>rw [e]
    · exact A.1.p.1
    · exact B.1.p.1
  · rcases hh with ⟨_,e⟩|⟨_,e⟩<;>rw [e]
    · exact mkS_p
    · rcases hH.2.2 with e | e<;>rw [e]
      · exact A.1.p.2
      · exact B.1.p.2
  · rcases hh with ⟨z,e⟩|⟨z,e⟩
    · exact .inl ⟨z,by rw [e];exact rv_int 1⟩
    · exact .inr ⟨z,by rw [e];exact hH.1,by rw [e];exact hH.2.1⟩
theorem sineV_enc{t:Dx}{p:Int}(ht:0≤t.m)(h1:Qa t)(p0:0≤p)(p1:p≤60000):(Zf t p).P∧Enc (Yt t.rv) (Zf t p).lo.rv (Zf t p).hi.rv:=by
  by_cases h0:t.rv=0
  · have e:Zf t p=zeroIv:=by rw [Zf,if_pos ((sine_zero ht).2 h0)]
    have z:zeroIv.lo.rv=0:=Z2
    have z':zeroIv.hi.rv=0:=Z2
    rw [e,h0,z,z']
    exact ⟨⟨Int.le_refl _,Int.le_refl _⟩,enc_sin0⟩
  · obtain ⟨a1,a2⟩:=QX ht
    have pos:0<(t.m:Rat)*p2 t.e:=by
      rcases (show 0<t.rv∨t.rv<0 by grind) with s | s
      · rw [←a1 (by grind)];exact s
      · rw [←a2 (by grind)];grind
    obtain ⟨k,k1,_⟩:=log2_ex pos
    have V:=sineV_iv ht h1 h0 k1 p0 p1
    exact ⟨V.1,V.2.1⟩
theorem sinesV_enc{v:Vx}{p:Int}(hv:v.P)(f1:Qa v.lo)(f2:Qa v.hi)(p0:0≤p)(p1:p≤60000):(ZA (QT v) p).P∧∀ x,v.lo.rv≤x→x≤v.hi.rv→Enc (Yt x) (ZA (QT v) p).lo.rv (ZA (QT v) p).hi.rv:=by
  have A:=sineV_enc (t:=qC v.lo) (p:=p) zZ (Z0 hv.1 f1) p0 p1
  have B:=sineV_enc (t:=qC v.hi) (p:=p) zZ (Z0 hv.2 f2) p0 p1
  rw [Qs hv.1] at A
  rw [Qs hv.2] at B
  exact ⟨⟨A.1.1,B.1.2⟩,fun x x1 x2=>A.2.mid B.2 (fun n=>sinS_mono f1.2 x1 (Rat.le_trans x2 f2.1) n) fun n=>sinS_mono (Rat.le_trans f1.2 x1) x2 f2.1 n⟩
theorem cosinesV_enc{v:Vx}{p:Int}(hv:v.P)(f1:Qa v.lo)(f2:Qa v.hi)(hl:v.lo.rv≤v.hi.rv)(p0:0≤p)(p1:p≤8000):(zF (QT v) p).P∧∀ x,v.lo.rv≤x→x≤v.hi.rv→Enc (YO x) (zF (QT v) p).lo.rv (zF (QT v) p).hi.rv:=by
  have K:=cosines_ok (p:=p) hv f1 f2 hl p0 p1
  have A:=XE (t:=qC v.lo) (p:=p) zZ (Z0 hv.1 f1) p0 (by omega)
  have B:=XE (t:=qC v.hi) (p:=p) zZ (Z0 hv.2 f2) p0 (by omega)
  rw [Qs hv.1] at A
  rw [Qs hv.2] at B
  have sl:=span4_lo (qI (qC v.lo) p).lo (qI (qC v.lo) p).hi (qI (qC v.hi) p).lo (qI (qC v.hi) p).hi
  have sh:=span4_hi (qI (qC v.lo) p).lo (qI (qC v.lo) p).hi (qI (qC v.hi) p).lo (qI (qC v.hi) p).hi
  have lo1:(zF (QT v) p).lo=(Qt (qI (qC v.lo) p).lo [(qI (qC v.lo) p).hi,(qI (qC v.hi) p).lo,(qI (qC v.hi) p).hi]).lo:=by
    unfold zF;split<;>rfl
  have z:ZP (QT v)=ZP v:=by
    unfold ZP QT
    show (decide ((qC v.lo).sgn≤0) && decide (0≤(qC v.hi).sgn))=_
    rw [one_sgn _ hv.1,one_sgn _ hv.2]
  refine ⟨K.xp,fun x x1 x2=>cos_over hv f1 f2 A.2.1 B.2.1 (by rw [lo1];exact sl.1) (by rw [lo1];exact sl.2.2.1) ?_ x1 x2⟩
  cases h:ZP v with
  | true =>
    have e:(zF (QT v) p).hi=mkS 1 0:=by unfold zF;rw [z,h];rfl
    exact .inl ⟨rfl,by rw [e];exact rv_int 1⟩
  | false =>
    have e:(zF (QT v) p).hi=(Qt (qI (qC v.lo) p).lo [(qI (qC v.lo) p).hi,(qI (qC v.hi) p).lo,(qI (qC v.hi) p).hi]).hi:=by
      unfold zF;rw [z,h];rfl
    exact .inr ⟨rfl,by rw [e];exact sh.2.1,by rw [e];exact sh.2.2.2.1⟩
def Thin(δ:Rat)(v:Vx):Prop:=v=zeroIv∨NarV δ v
structure PairOk (v:Vx) (η:Rat) (S C:Vx):Prop where
  sp:S.P
  cp:C.P
  sf:OneV S
  cf:OneV C
  sr:qT S=true
  cr:qT C=true
  st:Thin η S
  s32:-32≤S.lo.rv∧S.hi.rv≤32
  cn:Nar η C.lo.rv C.hi.rv
  c0:1/8≤C.lo.rv
  c1:C.hi.rv≤8
  z:v.lo.rv=0→v.hi.rv=0→S=zeroIv
  sin:∀ x,v.lo.rv≤x→x≤v.hi.rv→Enc (Yt x) S.lo.rv S.hi.rv
  cos:∀ x,v.lo.rv≤x→x≤v.hi.rv→Enc (YO x) C.lo.rv C.hi.rv
theorem trim_enc{s:Nat→Rat}{v:Vx}{p:Int}(hv:v.P)(hp:1≤p)(h:Enc s v.lo.rv v.hi.rv):Enc s (qV v p).lo.rv (qV v p).hi.rv:=by
  obtain ⟨b1,b2⟩:=Zr hv hp
  exact h.wide b1.2.1 b2.2.1
theorem nar_v{δ L H:Rat}{v:Vx}(h:VM δ L H v):NarV δ v:=h.elim (fun h=>.inl h.nar) fun h=>.inr h.nar
theorem pair_ok{v:Vx}{q:Int}{δ:Rat}(hv:v.P)(hr:qT v=true)(h1:ZZ v.lo q=0)(h2:ZZ v.hi q=0)(hn:VN δ v)(d0:0≤δ)(hd:δ≤p2 (-q)) :
    (Z1 v q=((zeroIv,zeroIv),3)∧qT (qV (ZA (QT v) q) (q+8))=false)∨Z1 v q=((qV (ZA (QT v) q) (q+8),qV (zF (QT v) q) (q+8)),0)∧PairOk v (p2 (5-q)) (qV (ZA (QT v) q) (q+8)) (qV (zF (QT v) q) (q+8)):=by
  obtain ⟨f1,p0,p1,m1⟩:=fault0 hv.1 h1
  obtain ⟨f2,_,_,m2⟩:=fault0 hv.2 h2
  have hl:=right_le hr
  have eR:Z1 v q=both2 (cutR (ZA (QT v) q) q) (cutR (zF (QT v) q) q):=by
    unfold Z1 checkR
    rw [if_pos hr,if_pos rfl,if_pos h1,if_pos h2]
  have K:=cosines_ok (p:=q) hv m1 m2 hl (by omega) (by omega)
  have C:=cos_cut K (by omega) (by omega)
  have c2:cutR (zF (QT v) q) q=(qV (zF (QT v) q) (q+8),0):=by rw [cutR,if_pos C.1]
  have e1:eps (q+8)=p2 (-7-q):=by unfold eps;congr 1;omega
  have e4:4*eps (q+8)≤1:=by
    rw [e1]
    have:=Qz (show -7-q≤-2 by omega)
    have e:p2 (-2)=1/4:=by decide +kernel
    rw [e] at this;grind
  have q0:=qL (-q)
  have k36:p2 (-36-q)≤p2 (-q)/8:=by
    have:=Qz (show -36-q≤-3 + -q by omega)
    rw [Qb] at this
    have e:p2 (-3)=1/8:=by decide +kernel
    rw [e] at this;grind
  have k40:p2 (-40-q)≤p2 (-q)/64:=by
    have:=Qz (show -40-q≤-6 + -q by omega)
    rw [Qb] at this
    have e:p2 (-6)=1/64:=by decide +kernel
    rw [e] at this;grind
  have k7:p2 (-7-q)≤p2 (-q)/64:=by
    have:=Qz (show -7-q≤-6 + -q by omega)
    rw [Qb] at this
    have e:p2 (-6)=1/64:=by decide +kernel
    rw [e] at this;grind
  have k5:p2 (5-q)=32*p2 (-q):=by
    rw [show 5-q=5 + -q by omega,Qb]
    have e:p2 5=32:=by decide +kernel
    rw [e]
  have q8:p2 (-q)≤1/8:=by
    have:=Qz (show -q≤-3 by omega)
    have e:p2 (-3)=1/8:=by decide +kernel
    rw [e] at this;exact this
  have w36:=rlL (qL (-36-q))
  have w40:=rlL (qL (-40-q))
  cases hS:qT (qV (ZA (QT v) q) (q+8)) with
  | false =>
    have c1:cutR (ZA (QT v) q) q=(zeroIv,3):=by rw [cutR,if_neg (by rw [hS];simp)]
    exact .inl ⟨by rw [eR,c1,c2];rfl,rfl⟩
  | true =>
    have c1:cutR (ZA (QT v) q) q=(qV (ZA (QT v) q) (q+8),0):=by rw [cutR,if_pos hS]
    have SE:=sinesV_enc (p:=q) hv m1 m2 (by omega) (by omega)
    have CE:=cosinesV_enc (p:=q) hv m1 m2 hl (by omega) (by omega)
    have CN:=(cosines_nar (p:=q) hv m1 m2 hn d0 (by omega) (by omega)).trim (p:=q+8) (by grind) (by omega) e4 (Zr K.xp (by omega)).1 (Zr K.xp (by omega)).2
    have qm:p2 (-2)=1/4:=by decide +kernel
    have q2:p2 2=4:=by decide +kernel
    have zz:v.lo.rv=0→v.hi.rv=0→qV (ZA (QT v) q) (q+8)=zeroIv:=fun a b=>by
      have A:Zf (qC v.lo) q=zeroIv:=by rw [Zf,if_pos ((sine_zero zZ).2 ((Qs hv.1).trans a))]
      have B:Zf (qC v.hi) q=zeroIv:=by rw [Zf,if_pos ((sine_zero zZ).2 ((Qs hv.2).trans b))]
      have:ZA (QT v) q=zeroIv:=by
        show (⟨(Zf (qC v.lo) q).lo,(Zf (qC v.hi) q).hi⟩:Vx)=_
        rw [A,B]
      rw [this,trim_zero _ (by omega)]
    have big:NarV δ v→VM (2*(2*δ+4*p2 (-36-q))+4*eps (q+8)) (p2 (Classical.epsilon (fun A:Int=>p2 A≤v.lo.rv∨p2 A≤-v.hi.rv)-4)/2) (2*p2 4) (qV (ZA (QT v) q) (q+8)):=fun hn=>by
      have hA:∃ A:Int,p2 A≤v.lo.rv∨p2 A≤-v.hi.rv:=by
        rcases hn with ⟨n0,_,_⟩|⟨n0,_,_⟩
        · obtain ⟨k,k1,_⟩:=log2_ex n0
          exact ⟨k,.inl k1⟩
        · obtain ⟨k,k1,_⟩:=log2_ex n0
          exact ⟨k,.inr k1⟩
      have SB:=sines_nar (p:=q) hv m1 m2 hn (Classical.epsilon_spec hA) d0 (by grind) (by omega) (by omega)
      exact SB.vm.trim SB.p (p:=q+8) (by grind) (by omega) e4
    refine .inr ⟨by rw [eR,c1,c2];rfl,Q9 _ _,Q9 _ _,⟨YI SE.1.1,YI SE.1.2⟩,⟨YI K.xp.1,YI K.xp.2⟩,hS,C.1,?_,?_,CN.nar.mono (by rw [e1,k5];grind),by have:=CN.lo;rw [qm] at this;grind,by have:=CN.hi;rw [q2] at this;grind,zz,fun x x1 x2=>trim_enc SE.1 (by omega) (SE.2 x x1 x2),fun x x1 x2=>trim_enc CE.1 (by omega) (CE.2 x x1 x2)⟩
    · rcases hn with ⟨a,b⟩ | hn
      · exact .inl (zz a b)
      · exact .inr (nar_v (big hn)|>.mono (by rw [e1,k5];grind))
    · rcases hn with ⟨a,b⟩ | hn
      · have z:zeroIv.lo.rv=0:=Z2
        have z':zeroIv.hi.rv=0:=Z2
        rw [zz a b,z,z'];decide
      · have q4:p2 4=16:=by decide +kernel
        rcases big hn with h | h
        · have a:=h.nar.1;have b:=h.nar.2.1;have c:=h.hi;rw [q4] at c;constructor<;>grind
        · have a:=h.nar.1;have b:=h.nar.2.1;have c:=h.hi;rw [q4] at c;constructor<;>grind
theorem fits_small{z:Dx}(h:OneF z)(hb:z.Bd 32768 64):z.fitsB=true:=by
  have m0:=h.p
  have l:=hb.lo
  have u:=hb.hi
  have w:=Yq m0
  have g:Yr z.m=false:=by unfold Yr;exact decide_eq_false (by omega)
  unfold Dx.fitsB
  rw [g,decide_eq_true (show -32768≤z.e by omega),decide_eq_true (show z.e≤32768 by omega)];rfl
theorem small_bd{d:Dx}(h:OneF d)(hf:d.fitsB=true)(h1:-32≤d.rv)(h2:d.rv≤32):d.Bd 32768 8:=by
  have b:=fits_bd hf
  refine ⟨by omega,by omega,b.lo,?_⟩
  by_cases z:d.m=0
  · rw [h.zero z]
    show (0:Int)+(blen (val []):Int)≤8
    decide
  · have m0:=h.p
    have g:=amt_ge (m:=d.m) (e:=d.e) (by omega)
    obtain ⟨r1,r2⟩:=QX h.p
    have q5:p2 5=32:=by decide +kernel
    have:p2 (d.e+(blen d.m:Int)-1)≤p2 5:=by
      rw [q5]
      rcases (show 0≤d.rv∨d.rv≤0 by grind) with s | s
      · have:=r1 s;grind
      · have:=r2 s;grind
    have:=p2_lt_iff.1 (show p2 (d.e+(blen d.m:Int)-1)<p2 6 by
      have e:p2 6=64:=by decide +kernel
      rw [e];rw [q5] at this;grind)
    omega
structure Half (η:Rat) (X:Vx) (s:Nat→Rat):Prop where
  p:X.P
  f:OneV X
  r:qT X=true
  t:Thin η X
  b:-32≤X.lo.rv∧X.hi.rv≤32
  e:Enc s X.lo.rv X.hi.rv
theorem turn_rv{v:Vx}(h:v.P):(ZF v).lo.rv = -v.hi.rv∧(ZF v).hi.rv = -v.lo.rv:=⟨rv_neg h.2,rv_neg h.1⟩
theorem turn_zero:ZF zeroIv=zeroIv:=by
  have:ZO ⟨false,[],0⟩=⟨false,[],0⟩:=Zd _ _
  show (⟨ZO ⟨false,[],0⟩,ZO ⟨false,[],0⟩⟩:Vx)=_
  rw [this];rfl
theorem NarV.turn{δ:Rat}{v:Vx}(hv:v.P)(h:NarV δ v):NarV δ (ZF v):=by
  obtain ⟨r1,r2⟩:=turn_rv hv
  unfold NarV
  rw [r1,r2,Rat.neg_neg,Rat.neg_neg]
  exact h.symm
theorem Half.turn{η:Rat}{X:Vx}{s:Nat→Rat}(h:Half η X s):Half η (ZF X) (fun n=>-s n):=by
  obtain ⟨r1,r2⟩:=turn_rv h.p
  have f:=QY h.r
  have le:=right_le h.r
  refine ⟨⟨YQ,YQ⟩,⟨negD_f h.p.2,negD_f h.p.1⟩,right_of (fits_neg h.f.2 f.2.1) (fits_neg h.f.1 f.1) (by rw [r1,r2];grind),?_,by rw [r1,r2];have:=h.b;constructor<;>grind,by rw [r1,r2];exact h.e.neg⟩
  rcases h.t with e | n
  · exact .inl (by rw [e,turn_zero])
  · exact .inr (n.turn h.p)
structure Fin1 (p:Int) (Y:Vx):Prop where
  q:Y.P
  f:OneV Y
  r:qT Y=true
  n:Qj Y p=true
theorem vm_nar{δ:Rat}{v:Vx}(h:NarV δ v):∃ L H,VM δ L H v:=by
  rcases h with h | h
  · exact ⟨_,_,.inl ⟨h.1,Rat.le_refl,Rat.le_refl,h⟩⟩
  · exact ⟨_,_,.inr ⟨h.1,Rat.le_refl,Rat.le_refl,h⟩⟩
theorem narrow_zero{p:Int}(p0:0≤p):Qj zeroIv p=true:=by
  have n:Q7 zeroIv p=true:=by unfold Q7;rw [if_neg (by decide),if_pos (by decide)]
  rw [Qj,zero_right,n,show leI 0 p=true from zS.2 p0];rfl
theorem fin_ok{X:Vx}{p:Int}{η:Rat}(hp:X.P)(hf:OneV X)(hr:qT X=true)(ht:Thin η X)(hb:-32≤X.lo.rv∧X.hi.rv≤32)(h0:0≤η)(p0:8≤p)(hd:2*η+4*p2 (-7-p)≤p2 (-p)):Fin1 p (qV X (p+8)):=by
  have f:=QY hr
  have le:=right_le hr
  have e1:eps (p+8)=p2 (-7-p):=by unfold eps;congr 1;omega
  have e4:4*eps (p+8)≤1:=by
    rw [e1]
    have:=Qz (show -7-p≤-2 by omega)
    have e:p2 (-2)=1/4:=by decide +kernel
    rw [e] at this;grind
  have F:OneV (qV X (p+8)):=⟨YI hp.1,YI hp.2⟩
  have B1:=(small_bd hf.1 f.1 hb.1 (by grind)).cut (p:=p+8) (up:=false) hp.1 (by omega)
  have B2:=(small_bd hf.2 f.2.1 (by grind) hb.2).cut (p:=p+8) (up:=true) hp.2 (by omega)
  obtain ⟨b1,b2⟩:=Zr hp (p:=p+8) (by omega)
  have R:qT (qV X (p+8))=true:=right_of (fits_small F.1 (B1.mono (by omega) (by omega))) (fits_small F.2 (B2.mono (by omega) (by omega))) (by
    have:=b1.2.1;have:=b2.2.1;grind)
  refine ⟨Q9 _ _,F,R,?_⟩
  rcases ht with e | n
  · rw [e,trim_zero _ (by omega)];exact narrow_zero (by omega)
  · obtain ⟨L,H,m⟩:=vm_nar (n.trim hp h0 (p:=p+8) (by omega) e4)
    exact narrow_of (Q9 _ _) R (by omega) m (by rw [e1];exact hd)
theorem Fin1.encl{p:Int}{Y U:Vx}(h:Fin1 p Y)(h1:Y.lo.rv≤U.hi.rv)(h2:U.lo.rv≤Y.hi.rv):enclB Y U p=true:=by
  have c:canonV Y=Y:=by
    show (⟨qC _,qC _⟩:Vx)=_
    rw [Xm h.f.1,Xm h.f.2]
  rw [enclB,h.r,c,sameV_refl2,h.n,zS.2 (cmpD_le.2 h1),zS.2 (cmpD_le.2 h2)];rfl
theorem inv_anti{a b:Rat}(a0:0<a)(h:a≤b):b⁻¹≤a⁻¹∧0<b⁻¹:=by
  have b0:0<b:=by grind
  have pa:=Rat.inv_pos.2 a0
  have pb:=Rat.inv_pos.2 b0
  have ea:=Rat.inv_mul_cancel a (by grind)
  have eb:=Rat.inv_mul_cancel b (by grind)
  have m:=rmL h (rlL (Rat.mul_pos pa pb))
  refine ⟨?_,pb⟩
  have e1:a⁻¹*b⁻¹*a=b⁻¹:=by rw [Rat.mul_comm a⁻¹,Rat.mul_assoc,ea,Rat.mul_one]
  have e2:a⁻¹*b⁻¹*b=a⁻¹:=by rw [Rat.mul_assoc,eb,Rat.mul_one]
  grind
theorem quo_nar{δ η a b c d x y x' y':Rat}(h:Nar δ a b)(k:Nar η c d)(d0:0≤δ)(n0:0≤η)(x1:a≤x)(x2:x≤b)(y1:c≤y)(y2:y≤d)(x1':a≤x')(x2':x'≤b)(y1':c≤y')(y2':y'≤d) :
    0<x*y⁻¹∧x' * y'⁻¹≤x*y⁻¹+(δ+η+δ*η)*(x*y⁻¹):=by
  obtain ⟨a0,ab,bd⟩:=h
  obtain ⟨c0,cd,dd⟩:=k
  have yp:0<y:=by grind
  have yp':0<y':=by grind
  have iy:=Rat.inv_pos.2 yp
  have iy':=Rat.inv_pos.2 yp'
  have ey:=Rat.inv_mul_cancel y (by grind)
  have ey':=Rat.inv_mul_cancel y' (by grind)
  refine ⟨Rat.mul_pos (by grind) iy,?_⟩
  have m1:=rmL x1 d0
  have m2:=rmL y1' n0
  have t1:x'≤x+δ*x:=by grind
  have t2:y≤y' + η*y':=by grind
  have t3:=rmR t1 (rlL yp)
  have t4:=rmL t2 (show 0≤x+δ*x by have:=rmN d0 (show 0≤x by grind);grind)
  have t5:=rmR (show x' * y≤(x+δ*x)*(y' + η*y') by grind) (rlL (Rat.mul_pos iy iy'))
  have e1:x' * y*(y⁻¹*y'⁻¹)=x' * y'⁻¹:=by
    rw [show x' * y*(y⁻¹*y'⁻¹)=x' * y'⁻¹*(y⁻¹*y) by grind,ey,Rat.mul_one]
  have e2:(x+δ*x)*(y' + η*y')*(y⁻¹*y'⁻¹)=(x*y⁻¹+(δ+η+δ*η)*(x*y⁻¹))*(y'⁻¹*y'):=by grind
  rw [e1,e2,ey',Rat.mul_one] at t5
  exact t5
theorem quo_up_dn{ζ q1 q2 l h:Rat}{p:Int}(hp:1≤p)(he:4*eps p≤1)(z0:0≤ζ)(q0:0<q1)(hl:Dn p q1 l)(hh:Up p q2 h)(le:l≤h)(hq:q2≤q1+ζ*q1)(q20:0<q2):Nar (2*ζ+4*eps p) l h:=by
  obtain ⟨r1,r2⟩:=hl.rel hp q0
  have r3:=hh.rel hp q20
  have e0:=Yf p
  have m1:=rmL hq (rlL e0)
  have z1:=rmN z0 (rlL q0)
  have m2:=rmR he (rlL q0)
  have m3:=rmR he z1
  have m4:=rmL r1 (show 0≤2*ζ+4*eps p by grind)
  have m5:=rmL m2 (rlL e0)
  have m6:=rmN (rlL e0) (rlL q0)
  exact ⟨r2,le,by grind⟩
end Go.Proofs.YtenkjloaghmjfaaGreatDoor
