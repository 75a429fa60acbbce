/-
TopHalfTurns: its word.
From the arguments of a row to numbers and intervals; what a law's call leaves.
-/
import Derived.Test.YtfdcdokfneicjaaGreatDoorMg4
import Derived.Test.YtfdcdokfneicjaaGreatDoorMg2
import Derived.ProofKit
import Derived.LaidMore
import Derived.OpenShut
import Derived.LaidLaws
import Derived.Carry
import Derived.OpenVars
import Derived.Deep.Strs
import Derived.ChangeCalls
import Derived.Stop.Joined
namespace Go.Proofs.YtfdcdokfneicjaaGreatDoor
open Go.RowKit
theorem p2_3(T:Int):p2 (T+3)=8*p2 T∧p2 (T+1)=2*p2 T:=by
  constructor
  · rw [p2_add,show p2 3=8 by decide +kernel];grind
  · rw [p2_add,show p2 1=2 by decide +kernel];grind
theorem ends_amt{z:Dx}(fz:OneF z){q:Rat}{T:Int}(hq:(p2 T≤q∧q≤p2 (T+3))∨(p2 T≤-q∧-q≤p2 (T+3)))(h:Dn 190 q z.rv∨Up 190 q z.rv):z.m≠0∧T-190<z.e∧z.e+(blen z.m:Int)≤T+4:=by
  have t0:=p2_pos T
  obtain ⟨r1,r2⟩:=rp_p2 (p:=190) T (by decide)
  obtain ⟨r3,r4⟩:=rp_p2 (p:=190) (T+3) (by decide)
  obtain ⟨rz,k⟩:Rp 190 z.rv∧((p2 T≤z.rv∧z.rv≤p2 (T+3))∨(p2 T≤-z.rv∧-z.rv≤p2 (T+3))):=by
    rcases h with ⟨a,b,c⟩|⟨a,b,c⟩<;>refine ⟨a,?_⟩<;>rcases hq with ⟨d,e⟩|⟨d,e⟩
    · left;have:=c _ r1 d;exact ⟨this,by grind⟩
    · right;have:=c _ r4 (by grind);exact ⟨by grind,by grind⟩
    · left;have:=c _ r3 e;exact ⟨by grind,this⟩
    · right;have:=c _ r2 (by grind);exact ⟨by grind,by grind⟩
  obtain ⟨a1,a2⟩:=rv_amt fz.p
  obtain ⟨am,an⟩:p2 T≤(z.m:Rat)*p2 z.e∧(z.m:Rat)*p2 z.e≤p2 (T+3):=by
    rcases k with ⟨x,y⟩|⟨x,y⟩
    · rw [←a1 (by grind)];exact ⟨x,y⟩
    · rw [←a2 (by grind)];exact ⟨x,y⟩
  have hz:z.m≠0:=fun e=>by
    rw [e,show ((0:Int):Rat)=0 from rfl] at am
    grind
  obtain ⟨u,v⟩:=rp_bd fz rz hz am an
  exact ⟨hz,u,by omega⟩
theorem ang_bd{x:Dx}(hx:0≤x.m)(hz:x.m≠0){d:Rat}{V:Vx}(P:PiIv d V)(t0:-900≤topX x)(t1:topX x≤900) :
    (OneF (timesV V (pointV x) 190).lo∧(timesV V (pointV x) 190).lo.Bd 1100 1024∧(timesV V (pointV x) 190).lo.m≠0)∧OneF (timesV V (pointV x) 190).hi∧(timesV V (pointV x) 190).hi.Bd 1100 1024:=by
  have xp:=pointV_p x
  obtain ⟨⟨x0,y0,hx0,hy0,e0⟩,⟨x1,y1,hx1,hy1,e1⟩⟩:=prod_at P.p xp
  obtain ⟨b1,b2⟩:=times_best (p:=190) (by decide) P.p xp
  obtain ⟨v1,v2⟩:=pointV_rv hx
  have l:=P.lo
  have h:=P.hi
  have le:=P.le
  have pp:=prodV_p V (pointV x)
  have f1:OneF (timesV V (pointV x) 190).lo:=cutD_f pp.1
  have f2:OneF (timesV V (pointV x) 190).hi:=cutD_f pp.2
  have g1:=amt_ge (m:=x.m) (e:=x.e) (by omega)
  have g2:=amt_lt (m:=x.m) (e:=x.e)
  have g2:(x.m:Rat)*p2 x.e<p2 (topX x+1):=by
    have:x.e+(blen x.m:Int)=topX x+1:=by unfold topX;omega
    rwa [this] at g2
  have g1:p2 (topX x)≤(x.m:Rat)*p2 x.e:=g1
  obtain ⟨p3,p1⟩:=p2_3 (topX x)
  have t0':=p2_pos (topX x)
  have key:∀ c:Rat,(c=V.lo.rv∨c=V.hi.rv)→(p2 (topX x)≤c*x.rv∧c*x.rv≤p2 (topX x+3))∨(p2 (topX x)≤-(c*x.rv)∧-(c*x.rv)≤p2 (topX x+3)):=fun c hc=>by
    have c3:3≤c∧c≤4:=by rcases hc with rfl | rfl<;>exact ⟨by grind,by grind⟩
    obtain ⟨a1,a2⟩:=rv_amt hx
    rcases Rat.le_total (a:=0) (b:=x.rv) with s | s
    · left
      have e:=a1 s
      rw [←e] at g1 g2
      have m1:=rmR c3.1 s
      have m2:=rmR c3.2 s
      exact ⟨by grind,by grind⟩
    · right
      have e:=a2 s
      rw [←e] at g1 g2
      have m1:=rmR c3.1 (show 0≤-x.rv by grind)
      have m2:=rmR c3.2 (show 0≤-x.rv by grind)
      exact ⟨by grind,by grind⟩
  have ey0:y0=x.rv:=by rcases hy0 with r | r<;>rw [r]<;>assumption
  have ey1:y1=x.rv:=by rcases hy1 with r | r<;>rw [r]<;>assumption
  rw [e0,ey0] at b1
  rw [e1,ey1] at b2
  obtain ⟨n1,l1,u1⟩:=ends_amt f1 (key x0 hx0) (.inl b1)
  obtain ⟨n2,l2,u2⟩:=ends_amt f2 (key x1 hx1) (.inr b2)
  exact ⟨⟨f1,⟨by decide,by decide,by omega,by omega⟩,n1⟩,f2,⟨by decide,by decide,by omega,by omega⟩⟩
theorem eps_le{a b:Rat}(h:∀ e:Rat,0<e→a≤b+3*e):a≤b:=by
  refine Classical.byContradiction fun k=>?_
  have:=h ((a-b)*(1/6)) (by grind)
  grind
theorem nearby_of{S T:Vx}{off:Dx}{s t:Nat→Rat}(hS:S.P)(ho:0≤off.m)(hs:Enc s S.lo.rv S.hi.rv)(ht:Enc t T.lo.rv T.hi.rv)(H:∀ e:Rat,0<e→∃ N,∀ i,N≤i→Ab (s i-t i) (off.rv+e)):nearbyB S T off=true:=by
  refine touch_of ⟨?_,?_⟩
  · show (lessD S.lo off).rv≤_
    rw [rv_less hS.1 ho]
    refine eps_le fun e he=>?_
    obtain ⟨N,hN⟩:=hs e he
    obtain ⟨M,hM⟩:=ht e he
    obtain ⟨K,hK⟩:=H e he
    have a:=hN (N+M+K) (by omega)
    have b:=hM (N+M+K) (by omega)
    have c:=hK (N+M+K) (by omega)
    have:=c.1;have:=c.2
    grind
  · show _≤(plusD S.hi off).rv
    rw [rv_plus hS.2 ho]
    refine eps_le fun e he=>?_
    obtain ⟨N,hN⟩:=hs e he
    obtain ⟨M,hM⟩:=ht e he
    obtain ⟨K,hK⟩:=H e he
    have a:=hN (N+M+K) (by omega)
    have b:=hM (N+M+K) (by omega)
    have c:=hK (N+M+K) (by omega)
    have:=c.1;have:=c.2
    grind
theorem ang_near{x:Dx}(hx:0≤x.m){d:Rat}{V W:Vx}(P:PiIv d V)(hW:∀ c,InV V c→InV W (c*x.rv)){e:Rat}(he:0<e):∃ N,∀ i,N≤i→Ab (x.rv*piS i-W.lo.rv) (W.hi.rv-W.lo.rv+e):=by
  have le:=P.le
  obtain ⟨K,K0,K1,K2⟩:∃ K:Rat,0<K∧x.rv≤K∧-x.rv≤K:=by
    rcases Rat.le_total (a:=x.rv) (b:=0) with h | h
    · exact ⟨1-x.rv,by grind,by grind,by grind⟩
    · exact ⟨1+x.rv,by grind,by grind,by grind⟩
  have ki:K*(e*K⁻¹)=e:=by rw [Rat.mul_comm e,←Rat.mul_assoc,Rat.mul_inv_cancel _ (by grind),Rat.one_mul]
  have ep:=Rat.mul_pos he (Rat.inv_pos.2 K0)
  generalize e*K⁻¹=ε at *
  obtain ⟨N,hN⟩:=P.enc ε ep
  refine ⟨N,fun i hi=>?_⟩
  obtain ⟨a1,a2⟩:=hN i hi
  generalize piS i=q at *
  obtain ⟨c,hc,d1,d2⟩:∃ c,InV V c∧q-c≤ε∧c-q≤ε:=by
    rcases Rat.le_total (a:=q) (b:=V.lo.rv) with h | h
    · exact ⟨_,⟨Rat.le_refl,le⟩,by grind,by grind⟩
    · rcases Rat.le_total (a:=q) (b:=V.hi.rv) with h' | h'
      · exact ⟨_,⟨h,h'⟩,by grind,by grind⟩
      · exact ⟨_,⟨le,Rat.le_refl⟩,by grind,by grind⟩
  obtain ⟨w1,w2⟩:=hW c hc
  have t:x.rv*(q-c)≤K*ε∧-(K*ε)≤x.rv*(q-c):=by
    have y1:-ε≤q-c:=by grind
    rcases Rat.le_total (a:=0) (b:=x.rv) with h | h
    · have m1:=rmL d1 h
      have m2:=rmL y1 h
      have m3:=rmR K1 (rlL ep)
      grind
    · have h':0≤-x.rv:=by grind
      have m1:=rmL d1 h'
      have m2:=rmL y1 h'
      have m3:=rmR K2 (rlL ep)
      grind
  obtain ⟨t1,t2⟩:=t
  exact ⟨by grind,by grind⟩
theorem half_turns{x:Dx}(hx:0≤x.m){p:Int}(p0:8≤p)(p1:p≤2048)(h:(bothTp x p).2=0){d:Rat}{V W:Vx}(P:PiIv d V)(hW:∀ c,InV V c→InV W (c*x.rv)){T D:Vx}{n:Int}(hl:0≤W.lo.m)(hh:0≤W.hi.m)
    (hb:EvB (rhS W.lo.rv n) (19/20)) (eT:Enc (sgS (rhS W.lo.rv n) n) T.lo.rv T.hi.rv) (eD:Enc (kpS (rhS W.lo.rv n) n) D.lo.rv D.hi.rv) :
    nearbyB (bothTp x p).1.1 T (lessD W.hi W.lo)=true∧nearbyB (bothTp x p).1.2 D (lessD W.hi W.lo)=true:=by
  obtain ⟨ht,_⟩:=both_no18 p0 p1 h
  obtain ⟨N,_,et,er,_⟩:=tur_num hx ht
  obtain ⟨lf,_,_⟩:=tur_lft hx ht
  obtain ⟨pS,pC,eS,eC⟩:=both_enc lf p0 p1 et h
  have eo:(lessD W.hi W.lo).rv=W.hi.rv-W.lo.rv:=rv_less hh hl
  have o0:0≤(lessD W.hi W.lo).rv:=by
    rw [eo]
    have:=hW V.lo.rv ⟨Rat.le_refl,P.le⟩
    have:=this.1;have:=(hW V.lo.rv ⟨Rat.le_refl,P.le⟩).2
    grind
  have ha:EvB (htS (turR x).2.1.rv) (19/20):=by
    obtain ⟨M,hM⟩:=piS_ev
    refine ⟨M,fun i hi=>?_⟩
    obtain ⟨m1,m2⟩:=hM i hi
    have l:=lf.l
    have h':=lf.h
    have r:htS (turR x).2.1.rv i=(turR x).2.1.rv*piS i:=rfl
    rw [r]
    have q0:0≤piS i:=by grind
    have u:=rmR h' q0
    have v:=rmR l q0
    exact ⟨by grind,by grind⟩
  have hD:∀ e:Rat,0<e→∃ K,∀ i,K≤i→Ab (htS (turR x).2.1.rv i+(N:Rat)*htS (1/2) i-(rhS W.lo.rv n i+(n:Rat)*htS (1/2) i)) ((lessD W.hi W.lo).rv+e):=fun e he=>by
    obtain ⟨K,hK⟩:=ang_near hx P hW he
    refine ⟨K,fun i hi=>(hK i hi).congr ?_ |>.mono (by rw [eo];exact Rat.le_refl)⟩
    show (turR x).2.1.rv*piS i+(N:Rat)*(1/2*piS i)-(W.lo.rv-(n:Rat)*(1/2*piS i)+(n:Rat)*(1/2*piS i))=x.rv*piS i-W.lo.rv
    rw [er];grind
  have L:=fun (e:Rat) (he:0<e)=>lip (m:=N) (n:=n) ha hb o0 hD he
  exact ⟨nearby_of pS lessD_p eS eT fun e he=>by obtain ⟨K,hK⟩:=L e he;exact ⟨K,fun i hi=>(hK i hi).1⟩,
    nearby_of pC lessD_p eC eD fun e he=>by obtain ⟨K,hK⟩:=L e he;exact ⟨K,fun i hi=>(hK i hi).2⟩⟩
theorem sNb_ok:SpecsOk Tryz.prog sNb:=⟨gTouch_ok,fLess_ok,fPlus_ok,trivial⟩
theorem lNb_ok:SpecOk Tryz.prog 26 (wNb nearbyB) :=
  specK_ok (envOk tysT_ok sNb_ok) mixed Tryz.func26 rfl (by decide) (by decide) fun (v:Vx) hv (u:Vx) _ (d:Dx) hd hp=>⟨fun _=>none,0,by
    obtain ⟨s1,s2,s3⟩:v.Sm 131072∧u.Sm 131072∧d.Sm 131072:=hp
    have pv:=Vx.Wf.p hv
    have pd:=Dx.Wf.m0 hd
    have z1:=lessD_sm pv.1 pd s1.1 s3
    have z2:=plusD_sm pv.2 pd s1.2 s3
    exact (lNb_vc v u d _).mpr ⟨⟨s1.1.mono (by omega),s3.mono (by omega)⟩,⟨s1.2.mono (by omega),s3.mono (by omega)⟩,⟨⟨z1.mono (by omega),z2.mono (by omega)⟩,s2.mono (by omega)⟩,rfl,rfl⟩⟩
theorem sHt_ok:SpecsOk Tryz.prog (sHt constR sndR bothTp bothTq sndsR Dx.zeroB topX pointV timesV lessD nearbyB) :=
  ⟨lBgt_ok,cConst_ok,lSt_ok,lSs_ok,tBp_ok,rBp_ok,fZero_ok,fTop_ok,gPoint_ok,gTimes_ok,fLess_ok,lNb_ok,trivial⟩
def lHt:Spec:=specK [.d,.i .i64] fun (_:Dx) (_:Int)=>(none,bT true)
theorem tp_range{x:Dx}{p:Int}(h:(bothTp x p).2=0):8≤p∧p≤2048:=by
  unfold bothTp at h
  split at h
  · assumption
  · cases h
theorem snds_right{r:(Vx×Vx)×Int}(h:(sndsR r).2=0):rightV r.1.1=true∧rightV r.1.2=true:=by
  have k:=snds_ok h
  unfold sndsR at h
  split at h
  · cases h
  · rename_i c
    constructor
    · cases e:rightV r.1.1 with
      | true=>rfl
      | false=>exact absurd ⟨k.1,.inl e⟩ c
    · cases e:rightV r.1.2 with
      | true=>rfl
      | false=>exact absurd ⟨k.1,.inr e⟩ c
theorem lHt_ok:SpecOk Tryz.prog 4 lHt :=
  specK_ok (envOk tysT_ok sHt_ok) mixed Tryz.func4 rfl (by decide) (by decide) fun (x:Dx) hxw (p:Int) _ _=>⟨fun _=>none,0,by
    have hx:=Dx.Wf.m0 hxw
    show execF _ _ _ _ _ (fun t=>t=bT true)
    have c0:constR 200=(constPi 200,0):=by rw [constR,if_pos (by decide)]
    have P:=constPi_iv (p:=200) (by decide) (by decide)
    have rp:=constPi_right (p:=200) (by decide) (by decide)
    refine (lHt_vc x p constR sndR bothTp bothTq sndsR Dx.zeroB topX pointV timesV lessD nearbyB _).mpr ?_
    rw [c0]
    generalize constPi 200=V at *
    have s0:sndR V 0=(V,0):=by rw [sndR,if_neg (fun c=>by rw [rp] at c;exact absurd c.2 (by decide))]
    rw [s0]
    refine ⟨rfl,br_intro (fun k=>by cases k) fun _=>br_intro (fun _=>rfl) fun h1=>br_intro (fun _=>rfl) fun hz=>?_⟩
    obtain ⟨b0,b1⟩:=snds_ok (neI_false.1 h1)
    obtain ⟨p0,p1⟩:=tp_range b0
    obtain ⟨ht,_⟩:=both_no18 p0 p1 b0
    obtain ⟨fx,_⟩:=tur_ok ht
    have sx:=fits_sm fx
    have xz:x.m≠0:=by
      intro e
      have:x.zeroB=true:=by rw [Dx.zeroB,decide_eq_true e]
      rw [this] at hz;cases hz
    refine ⟨sx.eB (by omega),br_intro (fun _=>rfl) fun h2=>⟨sx.eB (by omega),br_intro (fun _=>rfl) fun h3=>?_⟩⟩
    have t1:=ltI_false.1 h2
    have t0:=ltI_false.1 h3
    obtain ⟨⟨fy,by',ny⟩,fw,bw⟩:=ang_bd hx xz P (by omega) (by omega)
    have hW:∀ c,InV V c→InV (timesV V (pointV x) 190) (c*x.rv):=fun c hc=>times_in P.p (pointV_p x) (by decide) hc (pointV_in hx)
    have sV:=right_sm rp
    have sP:=pointV_sm hx sx
    have sy:(timesV V (pointV x) 190).lo.Sm 2124:=by'.sm (by omega)
    have sw:(timesV V (pointV x) 190).hi.Sm 2124:=bw.sm (by omega)
    have so:=lessD_sm fw.p fy.p sw sy
    refine ⟨sx.eB (by omega),⟨sV.mono (by omega),sP.mono (by omega),by omega,by omega⟩,rfl,⟨sw.mono (by omega),sy.mono (by omega)⟩,?_⟩
    rw [b1]
    have y0:(timesV V (pointV x) 190).lo.rv≠0:=rv_ne0 fy.p ny
    rcases trig_vals fy by' y0 p0 p1 with e6 | ⟨T,D,n,e,pT,pD,eb,eT,eD⟩
    · have z6:(sndsR (bothTq (timesV V (pointV x) 190).lo p)).2=6:=by rw [sndsR,if_neg (fun c=>by rw [e6] at c;exact absurd c.1 (by decide)),e6]
      refine br_intro (fun _=>?_) fun k=>?_
      · rw [z6];rfl
      · rw [z6] at k;cases k
    · obtain ⟨n1,n2⟩:=half_turns hx p0 p1 b0 P hW fy.p fw.p eb eT eD
      refine br_intro (fun k=>?_) fun k=>?_
      · have:(sndsR (bothTq (timesV V (pointV x) 190).lo p)).2=6:=by
          have k:=neI_true.1 k
          unfold sndsR at k ⊢
          split at k
          · rename_i c;rw [if_pos c]
          · rw [e] at k;exact absurd rfl k
        rw [this];rfl
      · obtain ⟨_,b2⟩:=snds_ok (neI_false.1 k)
        have R1:=snds_right (neI_false.1 k)
        have R2:=snds_right (neI_false.1 h1)
        rw [b2]
        rw [e] at R1 ⊢
        have q1:=right_sm R1.1
        have q2:=right_sm R1.2
        have q3:=right_sm R2.1
        have q4:=right_sm R2.2
        rw [n1,n2]
        exact ⟨⟨q3.mono (by omega),q1.mono (by omega),so.mono (by omega)⟩,⟨q4.mono (by omega),q2.mono (by omega),so.mono (by omega)⟩,rfl⟩⟩
end Go.Proofs.YtfdcdokfneicjaaGreatDoor
namespace Go.Proofs.YtfdcdokfneicjaaGreatDoor
open Go.RowKit Go.ChangeShapes Go.WideShapes Go.Deep
set_option maxRecDepth 100000
def C0(W:World):Base:=⟨W.heap.size,fun _=>False,0⟩
section
variable {H:Type} {enc:TypeId×Value→H} {W:World} {base fuel:Nat} {s:Value} {x:DataW H×List MemPlace}
theorem open_words(hv:Cell.okWide Tryz.prog W .any base 23 s)(h:DataW.trod enc Tryz.prog W 0 (fun _=>true) true fuel 23 [s]=some x)
    (hw:(x.1.weights Tryz.prog 23).all (·≤reachBytes)=true) (hlt:∀ p∈x.2,p.block<W.heap.size):∃ xs,Rep (C0 W) noBox W s (.words false xs):=by
  rcases open_ints Tryz.underlying23 Tryz.underlying57 (by kernel_rfl) h with ⟨e,rfl⟩|⟨a,len,cap,zs,e,_,hl,hm,hz,rfl,hc,hwf⟩
  · cases e
    exact ⟨[],.words ⟨none,0,rfl,Nat.le_refl _,⟨by omega,by simp⟩,Words.nil,fun _=>rfl,fun h=>absurd h (by simp)⟩⟩
  · cases e
    rw [if_pos rfl] at hz
    obtain ⟨_,_,_,hspot,_⟩:len≤cap∧(cap:Int)≤IntKind.i64.max∧W.has Tryz.prog .any base a 57 cap:=by
      simpa [Cell.okWide,Cell.ok,Tryz.underlying23] using hv
    obtain ⟨g,o,spot⟩:=a
    simp only at hspot;subst hspot
    have hb8:Tryz.prog.bytesOf 57=8:=by kernel_rfl
    have hwt:(len+(cap-len))*8≤reachBytes:=by
      simp only [DataW.weights,Tryz.underlying23,List.all_cons,Bool.and_eq_true,decide_eq_true_eq,lits,List.length_map,List.length_take,List.length_drop,hz,hb8] at hw
      have:=hw.1
      rwa [Nat.min_eq_left hl] at this
    have hr:reachBytes=140737488351232:=rfl
    rw [hr] at hwt
    have hwords:Words zs:=fun n hn=>by
      have:=hwf n hn
      simp only [Lit.wf,Bool.and_eq_true,decide_eq_true_eq] at this
      have h1:IntKind.u64.min=0:=rfl
      have h2:IntKind.u64.max=18446744073709551615:=rfl
      rw [h1,h2] at this
      exact ⟨by omega,by omega⟩
    have hlen:(zs.take len).length=len:=by rw [List.length_take];omega
    refine ⟨zs.take len,.words ⟨_,cap,by rw [hlen],by omega,⟨by simp [maxLen] at hm;omega,by omega⟩,hwords.take _,by simp,fun hp=>⟨g,o,rfl,⟨⟨by simp [noBox],fun hx=>hx.elim⟩,by simp⟩,?_,fun j hj=>?_⟩⟩⟩
    · exact World.block_lt_of_cell? W _ (hc 0 (by omega))
    · have hj:j<len:=by omega
      have:=hc j (by omega)
      rw [nth_take hj]
      rw [show (⟨g,o,none⟩:Addr).add j=⟨g,o+j,none⟩ from by simp [Addr.add]] at this
      exact this
theorem open_dy{cs:List Value}(hok:∀ c,cs[1]?=some c→Cell.okWide Tryz.prog W .any base 23 c)(h:DataW.trod enc Tryz.prog W 0 (fun _=>true) true fuel 25 cs=some x)
    (hw:(x.1.weights Tryz.prog 25).all (·≤reachBytes)=true) (hlt:∀ p∈x.2,p.block<W.heap.size):∃ d:Dx,RepL (C0 W) noBox W cs (dyL false d):=by
  obtain ⟨y0,y1,y2,n,rfl,hl,h0,h1,h2⟩:=trod_struct3 Tryz.underlying25 h
  rw [show Tryz.prog.cellsOf 25=3 by kernel_rfl] at hl
  match cs,hl with
  | [c0,c1,c2],_ =>
    obtain ⟨b,e0,rfl⟩:=DataW.trod_bool Tryz.underlying4 h0
    obtain ⟨k,e2,rfl,hk⟩:=DataW.trod_int Tryz.underlying3 h2
    rw [show Tryz.prog.cellsOf 4=1 by kernel_rfl] at e0
    rw [show Tryz.prog.cellsOf 3=1 by kernel_rfl] at e2
    simp at e0 e2
    subst e0;subst e2
    simp only [show Tryz.prog.cellsOf 23=1 by kernel_rfl] at h1
    simp only [DataW.weights,Tryz.underlying25,DataW.weightsEach,List.map_cons,List.map_nil,List.all_append,Bool.and_eq_true] at hw
    obtain ⟨xs,hxs⟩:=open_words (hok c1 rfl) (by simpa using h1) hw.2.1 (fun p hp=>hlt p (by simp [hp]))
    exact ⟨⟨b,xs,k⟩,Rep.bool b,hxs,Rep.int _ k,trivial⟩
theorem arg_d{v:Value}{d:DataW H}{ps:List MemPlace}(hv:Value.okWide Tryz.prog W .any base 25 v)(h:DataW.Trod enc Tryz.prog W 0 (fun _=>true) true 25 v d ps)
    (hw:(d.weights Tryz.prog 25).all (·≤reachBytes)=true) (hlt:∀ p∈ps,p.block<W.heap.size):∃ x:Dx,RepS (C0 W) noBox W v (.agg (dyL false x)):=by
  simp only [Value.okWide,Tryz.underlying25] at hv
  obtain ⟨cs,rfl,hsz,ts,hts,_,hrow⟩:=hv
  rw [show Tryz.prog.cellTypes Tryz.prog.depth 25=some [4,23,3] by kernel_rfl] at hts
  cases hts
  obtain ⟨fuel,h⟩:=h
  obtain ⟨x,hx⟩:=open_dy (x:=(d,ps)) (base:=base) (fun c hc=>by
    obtain ⟨u,hu,hok⟩:=hrow 1 c (by rw [←Array.getElem?_toList];exact hc)
    cases hu;exact hok) h hw hlt
  exact ⟨x,cs.toList,rfl,hx⟩
theorem arg_v{v:Value}{d:DataW H}{ps:List MemPlace}(hv:Value.okWide Tryz.prog W .any base 28 v)(h:DataW.Trod enc Tryz.prog W 0 (fun _=>true) true 28 v d ps)
    (hw:(d.weights Tryz.prog 28).all (·≤reachBytes)=true) (hlt:∀ p∈ps,p.block<W.heap.size):∃ x:Vx,RepS (C0 W) noBox W v (.agg (ivL false x)):=by
  simp only [Value.okWide,Tryz.underlying28] at hv
  obtain ⟨cs,rfl,hsz,ts,hts,_,hrow⟩:=hv
  rw [show Tryz.prog.cellTypes Tryz.prog.depth 28=some [4,23,3,4,23,3] by kernel_rfl] at hts
  cases hts
  rw [show Tryz.prog.cellsOf 28=6 by kernel_rfl] at hsz
  obtain ⟨fuel,h⟩:=h
  obtain ⟨cs⟩:=cs
  match cs,hsz with
  | [c0,c1,c2,c3,c4,c5],_ =>
    obtain ⟨y0,y1,n,e,_,h0,h1⟩:=trod_struct2 Tryz.underlying28 h
    cases e
    simp only [show Tryz.prog.cellsOf 25=3 by kernel_rfl] at h0 h1
    simp only [DataW.weights,Tryz.underlying28,DataW.weightsEach,List.map_cons,List.map_nil,List.all_append,Bool.and_eq_true] at hw
    obtain ⟨x,hx⟩:=open_dy (cs:=[c0,c1,c2]) (base:=base) (fun c hc=>by
      obtain ⟨u,hu,hok⟩:=hrow 1 c hc
      cases hu;exact hok) h0 hw.1 (fun p hp=>hlt p (by simp [hp]))
    obtain ⟨y,hy⟩:=open_dy (cs:=[c3,c4,c5]) (base:=base) (fun c hc=>by
      obtain ⟨u,hu,hok⟩:=hrow 4 c hc
      cases hu;exact hok) h1 hw.2.1 (fun p hp=>hlt p (by simp [hp]))
    obtain ⟨a1,a2,a3,_⟩:=hx
    obtain ⟨b1,b2,b3,_⟩:=hy
    exact ⟨⟨x,y⟩,[c0,c1,c2,c3,c4,c5],rfl,a1,a2,a3,b1,b2,b3,trivial⟩
def Kd:Ak→TypeId→Prop
  | .b,t=>t=4
  | .i q,t=>Tryz.prog.underlying t=some (.int q)
  | .w,_=>False
  | .fx,_=>False
  | .p,_=>False
  | .d,t=>t=25
  | .v,t=>t=28
def Kds:List Ak→List TypeId→Prop
  | [],[]=>True
  | k :: ks,t :: ts=>Kd k t∧Kds ks ts
  | _,_=>False
def okArg:(k:Ak)→k.T→Prop
  | .i q,n=>q.min≤n∧n≤q.max
  | _,_=>True
theorem arg_k{k:Ak}{t:TypeId}(hk:Kd k t){v:Value}{d:DataW H}{ps:List MemPlace}(hv:Value.okWide Tryz.prog W .any base t v)(h:DataW.Trod enc Tryz.prog W 0 (fun _=>true) true t v d ps)
    (hw:(d.weights Tryz.prog t).all (·≤reachBytes)=true) (hlt:∀ p∈ps,p.block<W.heap.size):∃ x:k.T,RepS (C0 W) noBox W v (k.enc x)∧okArg k x:=by
  cases k with
  | b =>
    obtain rfl:t=4:=hk
    obtain ⟨b,rfl⟩:=okWide_bool Tryz.underlying4 hv
    exact ⟨b,Rep.bool b,trivial⟩
  | i q =>
    obtain ⟨n,rfl⟩:=okWide_int hk hv
    refine ⟨n,Rep.int q n,(show q.min≤n∧n≤q.max from ?_)⟩
    have hk:Tryz.prog.underlying t=some (.int q):=hk
    simpa [Value.okWide,Cell.okWide,Cell.ok,hk,IntKind.has] using hv
  | w=>exact hk.elim
  | fx=>exact hk.elim
  | p=>exact hk.elim
  | d =>
    obtain rfl:t=25:=hk
    obtain ⟨x,hx⟩:=arg_d hv h hw hlt;exact ⟨x,hx,trivial⟩
  | v =>
    obtain rfl:t=28:=hk
    obtain ⟨x,hx⟩:=arg_v hv h hw hlt;exact ⟨x,hx,trivial⟩
theorem dec_enc(k:Ak)(x:k.T):k.dec (k.enc x)=some x:=by
  cases k with
  | i q=>cases q<;>rfl
  | _=>rfl
def AllTrue:(ks:List Ak)→AFun ks→Prop
  | [],g=>(match g.1 with | none=>True | some p=>p)∧g.2 = .sv (.one (.bool true))
  | k :: ks,g=>∀ x:k.T,okArg k x→AllTrue ks (g x)
theorem args_ok:∀ {ks:List Ak} {ts:List TypeId} {vs:List Value} {ds:List (DataW H)} {ps:List MemPlace},Kds ks ts→(∀ (j:Nat) t v,ts[j]?=some t→vs[j]?=some v→Value.okWide Tryz.prog W .any base t v) →
    DataW.TrodAll enc Tryz.prog W 0 (fun _=>true) true ts vs ds ps→(DataW.weightsEach Tryz.prog ts ds).all (·≤reachBytes)=true→(∀ p∈ps,p.block<W.heap.size) →
    ∃ l,RepSs (C0 W) noBox W vs l∧∀ g,AllTrue ks g→(match (specK ks g l).1 with | none=>True | some p=>p)∧(specK ks g l).2 = .sv (.one (.bool true))
  | [],[],vs,ds,ps,_,_,h,_,_=>by
    obtain ⟨rfl,rfl,rfl⟩:=trodAll_nil h
    exact ⟨[],trivial,fun g hg=>hg⟩
  | [],_ :: _,_,_,_,hk,_,_,_,_=>hk.elim
  | _ :: _,[],_,_,_,hk,_,_,_,_=>hk.elim
  | k :: ks,t :: ts,vs,ds,ps,hk,hv,h,hw,hlt=>by
    obtain ⟨v,vs1,d,ds1,a,b,rfl,rfl,rfl,h1,h2⟩:=trodAll_cons h
    simp only [DataW.weightsEach,List.all_append,Bool.and_eq_true] at hw
    obtain ⟨x,hx,hox⟩:=arg_k hk.1 (hv 0 t v rfl rfl) h1 hw.1 (fun p hp=>hlt p (by simp [hp]))
    obtain ⟨l,hl,hs⟩:=args_ok hk.2 (fun j t v ht hv'=>hv (j+1) t v ht hv') h2 hw.2 (fun p hp=>hlt p (by simp [hp]))
    refine ⟨k.enc x :: l,⟨hx,hl⟩,fun g hg=>?_⟩
    have e:specK (k :: ks) g (k.enc x :: l)=(match k.dec (k.enc x) with | some x=>specK ks (g x) l | none=>noSpec):=rfl
    rw [e,dec_enc]
    exact hs (g x) (hg x hox)
theorem law_calls{f:FuncId}{ks:List Ak}{g:AFun ks}(hs:SpecOk Tryz.prog f (specK ks g))(hg:AllTrue ks g){ts:List TypeId}{args:Array Value}{ds:List (DataW H)}{ps:List MemPlace}(hT:Tab W)(hk:Kds ks ts)
    (hv:∀ (j:Nat) t v,ts[j]?=some t→args.toList[j]?=some v→Value.okWide Tryz.prog W .any base t v) (h:DataW.TrodAll enc Tryz.prog W 0 (fun _=>true) true ts args.toList ds ps)
    (hw:(DataW.weightsEach Tryz.prog ts ds).all (·≤reachBytes)=true) (hlt:∀ p∈ps,p.block<W.heap.size) :
    Calls Tryz.prog f args W fun e W'=>e = .returned (.bool true)∧Below W.heap.size W W':=by
  obtain ⟨l,hl,hsp⟩:=args_ok hk hv h hw hlt
  have:=hs.2 (C0 W) W args.toList l rfl (fun g hg=>hg.elim) hT hl (hsp g hg).1
  rw [(hsp g hg).2] at this
  refine this.mono ?_
  rintro e w' ⟨v,rfl,hr,hb⟩
  obtain rfl:=rep_bool (A:=noBox) hr
  exact ⟨rfl,hb⟩
theorem trodAll_below{W':World}(hb:Below W.heap.size W W')(hl:laidOutB Tryz.prog=true):∀ {ts:List TypeId} {vs:List Value} {ds:List (DataW H)} {ps:List MemPlace},(∀ t∈ts,Tryz.prog.readableRec t=true∧t<Tryz.prog.types.size) →
    DataW.TrodAll enc Tryz.prog W 0 (fun _=>true) true ts vs ds ps→(∀ p∈ps,p.block<W.heap.size)→DataW.TrodAll enc Tryz.prog W' 0 (fun b=>decide (b<W.heap.size)) true ts vs ds ps
  | [],vs,ds,ps,_,h,_=>by
    obtain ⟨rfl,rfl,rfl⟩:=trodAll_nil h
    exact trodAll_mk0
  | t :: ts,vs,ds,ps,ht,h,hlt=>by
    obtain ⟨v,vs1,d,ds1,a,b,rfl,rfl,rfl,h1,h2⟩:=trodAll_cons h
    exact ⟨a,b,Below.trod hl (ht t (by simp)).1 (ht t (by simp)).2 h1 hb (fun p hp=>hlt p (by simp [hp])),trodAll_below hb hl (fun t h=>ht t (by simp [h])) h2 (fun p hp=>hlt p (by simp [hp])),rfl⟩
theorem law_post{fn:Func}{s:ChangeSpec}(hl:laidOutB Tryz.prog=true)(hres:fn.resultTypes = #[4])(hvars:s.vars = [])(ht:∀ t∈fn.params.toList,Tryz.prog.readableRec t=true∧t<Tryz.prog.types.size)
    {args:Array Value} {ds gs:List (DataW H)} {before:List MemPlace} (hspec:s.fn H (ds ++ gs) = { results:=[.lit (.bool true)],args:=ds })
    (hW:DataW.Whole enc Tryz.prog fn.params.toList s.vars false W args.toList ds gs before) {W':World} (hb:Below W.heap.size W W') :
    s.post enc Tryz.prog fn false true false false W args (.bool true) W':=by
  have hlt:=hW.lt
  have hW':=hW
  obtain ⟨p,q,hA,hV,rfl,hfz,hnd⟩:=hW
  rw [hvars] at hV
  obtain ⟨rfl,rfl⟩:=trodVars_none hV
  refine ⟨ds,[],_,[],p,[],hW',?_,?_,?_,hb.frame _,fun h=>by cases h⟩
  · rw [hspec,hres]
    exact trodAll_mk1 (shut_bool Tryz.underlying4 _)
  · rw [hspec]
    exact trodAll_below hb hl ht hA (fun x hx=>hlt x (by simp [hx]))
  · rw [hspec,hvars];rfl
end
theorem law_contract{H:Type}{enc:TypeId×Value→H}{f:FuncId}{fn:Func}{ks:List Ak}{g:AFun ks}{s:ChangeSpec}(hs:SpecOk Tryz.prog f (specK ks g))(hg:AllTrue ks g)(hl:laidOutB Tryz.prog=true)(hres:fn.resultTypes = #[4])(hvars:s.vars = [])
    (hvt:s.plain.varTypes Tryz.prog = []) (ht:∀ t∈fn.params.toList,Tryz.prog.readableRec t=true∧t<Tryz.prog.types.size) (hk:Kds ks fn.params.toList) (hspec:∀ ds:List (DataW H),ds.length=fn.params.toList.length→s.fn H ds = { results:=[.lit (.bool true)],args:=ds })
    {W:World} {base:Nat} {args:Array Value} {ds gs:List (DataW H)} {before:List MemPlace} (hval:∀ (j:Nat) t v,fn.params[j]?=some t→args[j]?=some v→Value.okWide Tryz.prog W .any base t v)
    (hW:DataW.Whole enc Tryz.prog fn.params.toList s.vars false W args.toList ds gs before) (hw:(DataW.weightsEach Tryz.prog (fn.params.toList ++ s.plain.varTypes Tryz.prog) (ds ++ gs)).all (·≤reachBytes)=true) (hT:Tab W) :
    Calls Tryz.prog f args W fun e W'=>∃ v,e = .returned v∧s.post enc Tryz.prog fn false true false false W args v W':=by
  have hlt:=hW.lt
  have hW':=hW
  obtain ⟨p,q,hA,hV,rfl,hfz,hnd⟩:=hW
  rw [hvars] at hV
  obtain ⟨rfl,rfl⟩:=trodVars_none hV
  rw [hvt,List.append_nil,List.append_nil] at hw
  refine (law_calls hs hg hT hk (fun j t v h1 h2=>hval j t v (by rw [←Array.getElem?_toList];exact h1) (by rw [←Array.getElem?_toList];exact h2)) hA hw (fun x hx=>hlt x (by simp [hx]))).mono ?_
  rintro e W' ⟨rfl,hb⟩
  exact ⟨_,rfl,law_post hl hres hvars ht (by rw [List.append_nil];exact hspec ds (trodAll_length hA).2) hW' hb⟩
theorem tabA_of{W:World}{D:DataW Unit}(hD:∀ ys:List (DataW Unit×List MemPlace),D = .agg (ys.map (·.1))→∀ j,j<64→∃ y,ys[j]?=some y∧y.1 = .lit (.int .u8 (Lib.deBruijn64tab.getD j 0)))
    {g0 : Nat} {t0 : TypeId} {cs0 : Array Value} {f0 : Nat} {p0 : List MemPlace} (hg0 : Tryz.prog.globalNamed "math/bits.deBruijn64tab" = some g0) (ht0 : (Tryz.prog.globals[g0]?).map (·.type) = some t0) (hv0 : W.var? Tryz.prog "math/bits.deBruijn64tab" = some cs0)
    (hd0:DataW.trod (fun _=>()) Tryz.prog W 0 (fun _=>true) false f0 t0 cs0.toList=some (D,p0)):TabA W:=by
  obtain rfl := Option.some.inj ((show Tryz.prog.globalNamed "math/bits.deBruijn64tab" = some 1 by kernel_rfl).symm.trans hg0)
  obtain rfl:=Option.some.inj ((show (Tryz.prog.globals[1]?).map (·.type)=some 187 by kernel_rfl).symm.trans ht0)
  obtain ⟨xs,m1,_,hx1,hlen,hn3,hel⟩:=DataW.trod_array Tryz.underlying187 hd0
  intro j hj
  simp only [Prod.mk.injEq] at hx1
  obtain ⟨y,hy,hy1⟩:=hD xs hx1.1 j hj
  have hj':=hel j hj
  rw [hy,show Tryz.prog.cellsOf 5=1 by kernel_rfl] at hj'
  obtain ⟨k,e1,e2,_⟩:=DataW.trod_int Tryz.underlying5 hj'
  have hk:k=Lib.deBruijn64tab.getD j 0:=by
    rw [e2] at hy1;simpa using hy1
  subst hk
  have:=World.var?_cell hg0 hv0 j
  rw [this]
  rw [Nat.mul_one] at e1
  have e3:(cs0.toList.drop j)[0]?=some (.int .u8 (Lib.deBruijn64tab.getD j 0)):=by
    have:((cs0.toList.drop j).take 1)[0]?=some (.int .u8 (Lib.deBruijn64tab.getD j 0)):=by rw [e1];rfl
    rwa [List.getElem?_take,if_pos (by omega)] at this
  rw [List.getElem?_drop,Nat.add_zero] at e3
  simpa using e3
theorem turn_cells{W:World}{f0:Nat}{cs:List Value}{x:DataW Unit×List MemPlace}(h:DataW.trod (fun _=>()) Tryz.prog W 0 (fun _=>true) false f0 124 cs=some x){a b:Int}{c d:Bool}
    (e:x.1 = .agg [.lit (.int .i64 a),.lit (.int .i64 b),.lit (.bool c),.lit (.bool d)]):cs = [.int .i64 a,.int .i64 b,.bool c,.bool d]:=by
  obtain ⟨xs,n,_,rfl,hl,hlen,hf⟩:=DataW.trod_struct Tryz.underlying124 h
  rw [show Tryz.prog.cellsOf 124=4 by kernel_rfl] at hl
  match cs,hl,xs,hlen,hf with
  | [c0,c1,c2,c3],_,[y0,y1,y2,y3],_,hf =>
    have h0:DataW.trod (fun _=>()) Tryz.prog W 0 (fun _=>true) false n 3 (([c0,c1,c2,c3].drop 0).take (Tryz.prog.cellsOf 3))=some y0:=hf 0 _ rfl
    have h1:DataW.trod (fun _=>()) Tryz.prog W 0 (fun _=>true) false n 3 (([c0,c1,c2,c3].drop 1).take (Tryz.prog.cellsOf 3))=some y1:=hf 1 _ rfl
    have h2:DataW.trod (fun _=>()) Tryz.prog W 0 (fun _=>true) false n 4 (([c0,c1,c2,c3].drop 2).take (Tryz.prog.cellsOf 4))=some y2:=hf 2 _ rfl
    have h3:DataW.trod (fun _=>()) Tryz.prog W 0 (fun _=>true) false n 4 (([c0,c1,c2,c3].drop 3).take (Tryz.prog.cellsOf 4))=some y3:=hf 3 _ rfl
    obtain ⟨k0,e0,r0,_⟩:=DataW.trod_int Tryz.underlying3 h0
    obtain ⟨k1,e1,r1,_⟩:=DataW.trod_int Tryz.underlying3 h1
    obtain ⟨k2,e2,r2⟩:=DataW.trod_bool Tryz.underlying4 h2
    obtain ⟨k3,e3,r3⟩:=DataW.trod_bool Tryz.underlying4 h3
    rw [show Tryz.prog.cellsOf 3=1 by kernel_rfl] at e0 e1
    rw [show Tryz.prog.cellsOf 4=1 by kernel_rfl] at e2 e3
    simp at e0 e1 e2 e3
    subst e0;subst e1;subst e2;subst e3;subst r0;subst r1;subst r2;subst r3
    simp at e
    obtain ⟨rfl,rfl,rfl,rfl⟩:=e
    rfl
theorem tabT_of{W:World}{D:DataW Unit}(hD:D = .agg [.agg [.lit (.int .i64 0),.lit (.int .i64 1),.lit (.bool false),.lit (.bool false)],.agg [.lit (.int .i64 1),.lit (.int .i64 0),.lit (.bool false),.lit (.bool true)],.agg [.lit (.int .i64 0),.lit (.int .i64 1),.lit (.bool true),.lit (.bool true)],.agg [.lit (.int .i64 1),.lit (.int .i64 0),.lit (.bool true),.lit (.bool false)]])
    {g0 : Nat} {t0 : TypeId} {cs0 : Array Value} {f0 : Nat} {p0 : List MemPlace} (hg0 : Tryz.prog.globalNamed "ulp/trig.turns" = some g0) (ht0 : (Tryz.prog.globals[g0]?).map (·.type) = some t0) (hv0 : W.var? Tryz.prog "ulp/trig.turns" = some cs0)
    (hd0:DataW.trod (fun _=>()) Tryz.prog W 0 (fun _=>true) false f0 t0 cs0.toList=some (D,p0)):TabT W:=by
  subst hD
  obtain rfl := Option.some.inj ((show Tryz.prog.globalNamed "ulp/trig.turns" = some 0 by kernel_rfl).symm.trans hg0)
  obtain rfl:=Option.some.inj ((show (Tryz.prog.globals[0]?).map (·.type)=some 125 by kernel_rfl).symm.trans ht0)
  obtain ⟨xs,m1,_,hx1,hlen,hn3,hel⟩:=DataW.trod_array Tryz.underlying125 hd0
  rw [show Tryz.prog.cellsOf 125=16 by kernel_rfl] at hlen
  simp only [Prod.mk.injEq] at hx1
  have hx:=hx1.1
  have e16:cs0.toList=turnsL:=by
    generalize hl:cs0.toList=l at hlen hel
    match xs,hn3,hx,hel with
    | [y0,y1,y2,y3],_,hx,hel =>
      simp only [List.map_cons,List.map_nil,DataW.agg.injEq,List.cons.injEq] at hx
      have h0:=hel 0 (by omega)
      have h1:=hel 1 (by omega)
      have h2:=hel 2 (by omega)
      have h3:=hel 3 (by omega)
      rw [show Tryz.prog.cellsOf 124=4 by kernel_rfl] at h0 h1 h2 h3
      have k0:=turn_cells h0 hx.1.symm
      have k1:=turn_cells h1 hx.2.1.symm
      have k2:=turn_cells h2 hx.2.2.1.symm
      have k3:=turn_cells h3 hx.2.2.2.1.symm
      have e:l=(l.drop (0*4)).take 4 ++ ((l.drop (1*4)).take 4 ++ ((l.drop (2*4)).take 4 ++ (l.drop (3*4)).take 4)):=by
        match l,hlen with
        | [_,_,_,_,_,_,_,_,_,_,_,_,_,_,_,_],_=>rfl
      rw [e,k0,k1,k2,k3]
      rfl
  intro i v e
  rw [World.var?_cell hg0 hv0 i,←Array.getElem?_toList,e16]
  exact e
theorem tab_of{W:World}{D D2:DataW Unit}(hD:∀ ys:List (DataW Unit×List MemPlace),D = .agg (ys.map (·.1))→∀ j,j<64→∃ y,ys[j]?=some y∧y.1 = .lit (.int .u8 (Lib.deBruijn64tab.getD j 0)))
    (hD2:D2 = .agg [.agg [.lit (.int .i64 0),.lit (.int .i64 1),.lit (.bool false),.lit (.bool false)],.agg [.lit (.int .i64 1),.lit (.int .i64 0),.lit (.bool false),.lit (.bool true)],.agg [.lit (.int .i64 0),.lit (.int .i64 1),.lit (.bool true),.lit (.bool true)],.agg [.lit (.int .i64 1),.lit (.int .i64 0),.lit (.bool true),.lit (.bool false)]])
    (hh : D.handleName?.isNone = true) (h : laidMetH Tryz.prog [("math/bits.deBruijn64tab", D), ("ulp/trig.turns", D2)] W) : Tab W := by
  rw [MakeChecks.laidMetH_plain _ _ _ (by subst hD2;show (D.handleName?.isNone && _)=true;rw [hh];rfl)] at h
  obtain ⟨ps,⟨g0,t0,cs0,f0,p0,q0,hg0,ht0,hv0,hd0,⟨g1,t1,cs1,f1,p1,q1,hg1,ht1,hv1,hd1,_⟩,_⟩,_⟩:=h
  exact ⟨tabA_of hD hg0 ht0 hv0 hd0,tabT_of hD2 hg1 ht1 hv1 hd1⟩
end Go.Proofs.YtfdcdokfneicjaaGreatDoor
