/-
Package limbs: Len, Low, Cmp.
Package limbs: Cmp, Add, Sub.
A row of words that the call itself has made: its block as a whole, a word stored, the slice that it reads as.
Package limbs: Add, Sub. Printed by gen_add.py.
Package limbs: Mul.
Package limbs: Shl, Shr.
Package limbs: Shr.
math/bits.Div64.
Package limbs: Short.
Package limbs: step, a digit of a long division.
Package limbs: Div.
Package limbs: Sqrt.
The references' naturals (ulpref03): Norm, Great, Of, word, Len, Bit, Low, Cmp.
The references' naturals (ulpref03): Add, Sub. Printed by gen_nat2.py.
The references' naturals (ulpref03): Len, Bit, Low, Cmp, Same, times.
The references' naturals (ulpref03): Shl, Shr.
The references' naturals (ulpref03): Shr.
The references' naturals (ulpref03): Mul. Printed by gen_nat6.py.
Dyadic numbers: their one form, sums, products, cuts, order. Plain: no program in sight.
Symbolic execution, sixteenth part: functions of bools, numbers, words, dyadic numbers and intervals; what they are shown to answer.
Types, and the words of packages limbs and ulpref03: out of their contracts.
Package raw: numbers, first part.
Package raw: numbers, second part.
-/
import Derived.Test.YtbmolijeikedcaaGreatDoorMg0
import Derived.RegionTactic
import Derived.ChangeAlike
import Derived.Deep.CutBlock
import Derived.Deep.DeepCutAuto
import Derived.Deep.Cut
import Derived.Maps.AppendAt
import Derived.Deep.AppendLies
import Derived.Laws.AppendOwnNone
import Derived.Laws.CopyOwn
namespace Go.Proofs.YtbmolijeikedcaaGreatDoor
open Go.RowKit
theorem blen_last{n:Int}(h:0<n):blen n=64*((ws n).length-1)+blen (nth (ws n) ((ws n).length-1)):=by
  by_cases hq:0<n/18446744073709551616
  · have ih:=blen_last hq
    have hp:=ws_len_pos hq
    have e:blen n=blen (n/18446744073709551616)+64:=by
      have a1:=blen_ge hq
      have a2:=blen_lt (n/18446744073709551616)
      have a3:=blen_pos hq
      obtain ⟨k,hk⟩:∃ k,blen (n/18446744073709551616)=k+1:=⟨blen (n/18446744073709551616)-1,by omega⟩
      rw [hk] at a1 a2 ⊢;rw [Nat.add_sub_cancel] at a1
      rw [show k+1+64=(k+64)+1 from by omega]
      have p:(2:Int)^(k+64)=18446744073709551616*2^k:=by rw [Int.pow_add];grind
      refine blen_eq ?_ ?_
      · rw [p];omega
      · rw [Int.pow_succ] at a2 ⊢;rw [p];omega
    have e2:(ws n)=(n % 18446744073709551616) :: ws (n/18446744073709551616):=ws_pos h
    rw [e,ih,e2,List.length_cons,Nat.add_sub_cancel]
    obtain ⟨j,hj⟩:∃ j,(ws (n/18446744073709551616)).length=j+1:=⟨(ws (n/18446744073709551616)).length-1,by omega⟩
    rw [hj,Nat.add_sub_cancel,nth_cons_succ];omega
  · have e2:(ws n) = [n]:=by
      rw [ws_pos h,ws_nonpos (n:=n/18446744073709551616) (by omega)]
      congr 1;omega
    rw [e2];simp [nth]
termination_by n.toNat
decreasing_by omega
set_option maxHeartbeats 400000 in
theorem len_calls{B:Nat}{w:World}{v:Value}{xs:List Int}(h:NatAt B w v xs) :
    Calls Tryz.prog 114 #[v] w fun e w'=>e = .returned (.int .i64 (blen (val xs)))∧w=w':=by
  have hv:=val_nonneg h.words
  go_enter Tryz.func114,Tryz.ntmps114
  go_wp2_with fail
  refine (trim_calls h).mono ?_
  rintro e w' ⟨v',rfl,hn,rfl⟩
  by_cases hx:ws (val xs) = []
  · obtain ⟨A,c,rfl,hc⟩:=hn.open0 hx
    have hz:Hid (blen (val xs)=0):=by show _=_;rw [(ws_eq_nil hv).1 hx];rfl
    clear hx hn
    go_wp2
    go_ret
    rw [hz.out];exact ⟨rfl,rfl⟩
  · have hp:0<(ws (val xs)).length:=List.length_pos_iff.2 hx
    obtain ⟨g,o,m,c,rfl,hm,hc,hcap,hlen0,hB,hg,hcell⟩:=hn.open1 hp
    have hw:Hid (Word (nth (ws (val xs)) m)):=hn.words.nth m
    have hl:Hid (blen (val xs)=64*m+blen (nth (ws (val xs)) m)):=by
      show _=_
      rw [blen_last (ws_pos_of hp),hm.out,Nat.add_sub_cancel]
    have hcm:=hcell m (by omega)
    have hb:blen (nth (ws (val xs)) m)≤64:=blen_le (by have:=hw.out.2;omega)
    clear hcell hn h hv hx hp
    go_wp2_with fail
    refine (len64_calls _ _ hw.out).mono ?_
    rintro e w' ⟨rfl,rfl⟩
    go_wp2
    go_ret
    refine ⟨?_,rfl⟩
    rw [hl.out,show ((64*m+blen (nth (ws (val xs)) m):Nat):Int)=64*(m:Int)+(blen (nth (ws (val xs)) m):Int) from by omega]
    rfl
theorem tz_at:∀ {xs:List Int} {k:Nat},Words xs→(∀ j,j<k→nth xs j=0)→nth xs k≠0→tz (val xs)=64*k+tz (nth xs k)
  | [],k,_,_,h=>by rw [nth_nil] at h;exact absurd rfl h
  | x :: xs,0,hw,_,h=>by
    rw [nth_cons_zero] at h ⊢
    have h1:=hw.head.1;have h2:=hw.head.2;have hv:=val_nonneg hw.tail
    obtain ⟨m,hm,e⟩:=tz_spec (n:=x) (by omega)
    have ht:tz x<64:=by
      have:=tz_lt_blen (n:=x) (by omega)
      have:=blen_le (n:=x) (k:=64) (by omega);omega
    obtain ⟨d,hd⟩:∃ d,64=tz x+(d+1):=⟨63-tz x,by omega⟩
    have p:(18446744073709551616:Int)=2^tz x*(2*2^d):=by
      have:(18446744073709551616:Int)=2^64:=by decide
      rw [this,hd,Int.pow_add,Int.pow_succ];grind
    rw [val_cons,Nat.mul_zero,Nat.zero_add]
    have q:=two_pow_pos d
    refine tz_unique (m:=m+2^d*val xs) (by have:=Int.mul_nonneg (show 0≤(2:Int)^d by omega) hv;omega) ?_
    rw [p];conv=>lhs;lhs;rw [e]
    grind
  | x :: xs,k+1,hw,hz,h=>by
    have h0:x=0:=hz 0 (by omega)
    rw [nth_cons_succ] at h ⊢
    have ih:=tz_at (xs:=xs) (k:=k) hw.tail (fun j hj=>by have:=hz (j+1) (by omega);rwa [nth_cons_succ] at this) h
    have hv:0<val xs:=by
      by_cases hv:0<val xs
      · exact hv
      · have:=val_nonneg hw.tail
        have e:val xs=0:=by omega
        rw [e,tz_zero] at ih
        have h3:∀ {ys:List Int} {j:Nat},Words ys→val ys=0→nth ys j=0:=by
          intro ys
          induction ys with
          | nil=>intro j _ _;exact nth_nil j
          | cons y ys ihy =>
            intro j hy he
            rw [val_cons] at he
            have:=hy.head.1;have:=val_nonneg hy.tail
            cases j with
            | zero=>rw [nth_cons_zero];omega
            | succ j=>rw [nth_cons_succ];exact ihy hy.tail (by omega)
        exact absurd (h3 hw.tail e) h
    subst h0
    rw [val_cons,Int.zero_add,show (18446744073709551616:Int)*val xs=val xs*2^64 from by rw [show (18446744073709551616:Int)=2^64 from by decide];grind,tz_mul_pow hv,ih]
    omega
theorem val_all_zero:∀ {xs:List Int},(∀ j,j<xs.length→nth xs j=0)→val xs=0
  | [],_=>rfl
  | x :: xs,h=>by
    have h0:x=0:=h 0 (by simp)
    rw [val_cons,h0,val_all_zero (fun j hj=>by have:=h (j+1) (by simp;omega);rwa [nth_cons_succ] at this)];simp
set_option maxHeartbeats 400000 in
theorem low_calls{B:Nat}{w:World}{v:Value}{xs:List Int}(hT:Tab w)(h:NatAt B w v xs) :
    Calls Tryz.prog 97 #[v] w fun e w'=>e = .returned (.int .i64 (tz (val xs)))∧w=w':=by
  have hw:=Lib.hid h.words
  have HT:Hid (Tab w):=hT
  clear hT
  by_cases hx:xs = []
  · obtain ⟨A,c,rfl,hc⟩:=h.open0 hx
    have hz:Hid (tz (val xs)=0):=by show _=_;rw [hx,val_nil,tz_zero]
    clear hx h
    go_enter Tryz.func97,Tryz.ntmps97
    go_wp2
    go_loop [7] (fun i=>i = .int .i64 0) (fun i=>0)
    case atStart=>rfl
    case round =>
      obtain rfl:=hrel
      go_wp2
      go_ret
      rw [hz.out];exact ⟨rfl,rfl⟩
  · have hp:0<xs.length:=List.length_pos_iff.2 hx
    obtain ⟨g,o,m,c,rfl,hm,hc,hcap,hlen0,hB,hg,hcell⟩:=h.open1 hp
    clear hx h hp
    go_enter Tryz.func97,Tryz.ntmps97
    go_wp2
    go_loop [7] (fun i=>∃ k:Nat,k≤m+1∧i = .int .i64 k∧Hid (∀ j,j<k→nth xs j=0)) (fun i=>m+1-(intOf i).toNat)
    case atStart=>exact ⟨0,by omega,rfl,fun j hj=>by omega⟩
    case round =>
      obtain ⟨k,hk,rfl,hr⟩:=hrel
      by_cases hlt:k<m+1
      · have hck:=hcell k hlt
        by_cases hz:nth xs k=0
        · have hb:(nth xs k != 0)=false:=by simpa using hz
          have hr':Hid (∀ j,j<k+1→nth xs j=0):=fun j hj=>by
            by_cases e:j=k
            · subst e;exact hz
            · exact hr.out j (by omega)
          clear hz hr
          go_wp2
          go_round
          case rel=>exact ⟨k+1,by omega,by go_num,hr'⟩
          case measure=>simp [intOf];omega
        · have hb:(nth xs k != 0)=true:=by simpa using hz
          have hr':Hid (tz (val xs)=64*k+tz (nth xs k)):=tz_at hw.out hr.out hz
          have hW:Hid (Word (nth xs k)):=hw.out.nth k
          have h64:tz (nth xs k)≤64:=by
            have h1:=hW.out.1;have h2:=hW.out.2
            have:=tz_lt_blen (n:=nth xs k) (by omega)
            have:=blen_le (n:=nth xs k) (k:=64) (by omega);omega
          have hz':Hid (nth xs k≠0):=hz
          clear hz hr
          go_wp2_with fail
          refine (tz64_calls _ _ HT.out hW.out hz'.out).mono ?_
          rintro e w' ⟨rfl,rfl⟩
          go_wp2
          go_ret
          refine ⟨?_,rfl⟩
          rw [hr'.out,show ((64*k+tz (nth xs k):Nat):Int)=64*(k:Int)+(tz (nth xs k):Int) from by omega]
          rfl
      · have hr':Hid (tz (val xs)=0):=by
          show _=_
          rw [val_all_zero (fun j hj=>hr.out j (by have:=hm.out;omega)),tz_zero]
        clear hr
        go_wp2
        go_ret
        rw [hr'.out];exact ⟨rfl,rfl⟩
def cmpI(a b:Int):Int:=if a<b then -1 else if b<a then 1 else 0
theorem cmpI_len{a b:Int}(h:(ws a).length<(ws b).length)(ha:0≤a):cmpI a b = -1:=by
  have h1:=lt_wpow_ws ha
  have:a<b:=by
    by_cases hab:a<b
    · exact hab
    · have:=ws_length_le (n:=b) (k:=(ws a).length) (by omega);omega
  unfold cmpI;rw [if_pos this]
theorem cmpI_len'{a b:Int}(h:(ws b).length<(ws a).length)(hb:0≤b):cmpI a b=1:=by
  have h1:=lt_wpow_ws hb
  have:b<a:=by
    by_cases hab:b<a
    · exact hab
    · have:=ws_length_le (n:=a) (k:=(ws b).length) (by omega);omega
  unfold cmpI;rw [if_neg (by omega),if_pos this]
theorem cmp_at{xs ys:List Int}{k:Nat}(hx:Words xs)(hy:Words ys)(hl:xs.length=ys.length)(hk:k<xs.length)(he:∀ j,k<j→nth xs j=nth ys j)(hlt:nth xs k<nth ys k):val xs<val ys:=by
  have h1:=val_split xs (k+1) (by omega)
  have h2:=val_split ys (k+1) (by omega)
  have e:xs.drop (k+1)=ys.drop (k+1):=by
    apply List.ext_getElem?
    intro i
    by_cases hi:k+1+i<xs.length
    · rw [List.getElem?_drop,List.getElem?_drop,nth_get? hi,nth_get? (by omega),he _ (by omega)]
    · rw [List.getElem?_eq_none (by simp;omega),List.getElem?_eq_none (by simp;omega)]
  rw [h1,h2,e,val_take_more,val_take_more]
  have a1:=val_lt (hx.take k)
  have a2:=val_nonneg (hy.take k)
  rw [List.length_take,Nat.min_eq_left (by omega)] at a1
  have p:=wpow_pos k
  have:=imL (show nth xs k+1≤nth ys k by omega) (show 0≤wpow k by omega)
  rw [Int.mul_add] at this
  omega
theorem ext_nth{xs ys:List Int}(hl:xs.length=ys.length)(he:∀ j,nth xs j=nth ys j):xs=ys:=by
  apply List.ext_getElem?
  intro i
  by_cases hi:i<xs.length
  · rw [nth_get? hi,nth_get? (by omega),he]
  · rw [List.getElem?_eq_none (by omega),List.getElem?_eq_none (by omega)]
theorem cmpI_of_lt{a b:Int}(h:a<b):cmpI a b = -1:=by unfold cmpI;rw [if_pos h]
theorem cmpI_of_gt{a b:Int}(h:b<a):cmpI a b=1:=by unfold cmpI;rw [if_neg (by omega),if_pos h]
theorem cmpI_self(a:Int):cmpI a a=0:=by unfold cmpI;rw [if_neg (by omega),if_neg (by omega)]
set_option maxHeartbeats 800000 in
theorem lcmp_calls{B B':Nat}{w:World}{v v':Value}{xs ys:List Int}(h:NatAt B w v xs)(h':NatAt B' w v' ys) :
    Calls Tryz.prog 82 #[v,v'] w fun e w'=>e = .returned (.int .i64 (cmpI (val xs) (val ys)))∧Below w.heap.size w w':=by
  have hvx:=val_nonneg h.words
  have hvy:=val_nonneg h'.words
  go_enter Tryz.func82,Tryz.ntmps82
  go_wp2_with fail
  refine (trim_calls h).mono ?_
  rintro e w' ⟨v1,rfl,hn,rfl⟩
  go_wp2_with fail
  refine (trim_calls h').mono ?_
  rintro e w' ⟨v2,rfl,hn',rfl⟩
  clear h h'
  obtain ⟨A1,L1,c1,rfl,e1,k1,q1⟩:=hn.open
  obtain ⟨A2,L2,c2,rfl,e2,k2,q2⟩:=hn'.open
  have s1:=hn.len;have s2:=hn'.len
  have b1:L1≤17592186044415:=by have:=e1.out;omega
  have b2:L2≤17592186044415:=by have:=e2.out;omega
  clear s1 s2
  by_cases hne:L1=L2
  · subst hne
    cases L1 with
    | zero =>
      have hc:Hid (cmpI (val xs) (val ys)=0):=by
        show _=_
        have z1:=(ws_eq_nil hvx).1 (List.eq_nil_of_length_eq_zero e1.out)
        have z2:=(ws_eq_nil hvy).1 (List.eq_nil_of_length_eq_zero e2.out)
        rw [z1,z2];rfl
      clear hn hn' hvx hvy e1 e2
      go_wp2
      go_loop [5] (fun i=>i = .int .i64 (-1)) (fun i=>0)
      case atStart=>rfl
      case round =>
        obtain rfl:=hrel
        go_wp2
        go_ret
        rw [hc.out];exact ⟨rfl,Below.refl _ _⟩
    | succ m =>
      obtain ⟨g1,o1,m1,c1',E1,f1,_,_,_,_,_,hcx⟩:=hn.open1 (by rw [e1.out];omega)
      obtain ⟨g2,o2,m2,c2',E2,f2,_,_,_,_,_,hcy⟩:=hn'.open1 (by rw [e2.out];omega)
      obtain rfl:m=m1:=by have:=e1.out;have:=f1.out;omega
      obtain rfl:m=m2:=by have:=e2.out;have:=f2.out;omega
      simp only [Value.slice.injEq] at E1 E2
      obtain ⟨rfl,_,rfl⟩:=E1
      obtain ⟨rfl,_,rfl⟩:=E2
      have wx:Hid (Words (ws (val xs))):=hn.words
      have wy:Hid (Words (ws (val ys))):=hn'.words
      have vx:Hid (val (ws (val xs))=val xs):=val_ws hvx
      have vy:Hid (val (ws (val ys))=val ys):=val_ws hvy
      clear hn hn' f1 f2 hvx hvy
      generalize ws (val xs)=X at *
      generalize ws (val ys)=Y at *
      go_wp2
      go_loopw [5] (fun i wr=>∃ k:Nat,k≤m+1∧i = .int .i64 ((k:Int)-1)∧(∃ n,wr=w.drewN n)∧Hid (∀ j,k≤j→nth X j=nth Y j)) (fun i _=>(intOf i+1).toNat)
      case atStart =>
        refine ⟨m+1,by omega,by go_num,⟨0,rfl⟩,fun j hj=>?_⟩
        rw [nth_ge (by have:=e1.out;omega),nth_ge (by have:=e2.out;omega)]
      case round =>
        obtain ⟨k,hk,rfl,⟨n,rfl⟩,hr⟩:=hrel
        by_cases h0:0<k
        · obtain ⟨j,rfl⟩:∃ j,k=j+1:=⟨k-1,by omega⟩
          have hxj:=hcx j (by omega)
          have hyj:=hcy j (by omega)
          have e0:((j+1:Nat):Int)-1=(j:Int):=by omega
          rw [e0]
          clear e0
          by_cases heq:nth X j=nth Y j
          · have hb:(nth X j != nth Y j)=false:=by simpa using heq
            have hr':Hid (∀ i,j≤i→nth X i=nth Y i):=fun i hi=>by
              by_cases e:i=j
              · subst e;exact heq
              · exact hr.out i (by omega)
            clear heq hr
            go_wp2
            go_quiet (fail)
            go_wp2
            go_roundw
            case rel=>exact ⟨j,by omega,rfl,⟨_,rfl⟩,hr'⟩
            case measure=>simp [intOf]
          · have hb:(nth X j != nth Y j)=true:=by simpa using heq
            by_cases hlt:nth X j<nth Y j
            · have hd:decide (nth X j<nth Y j)=true:=by simpa using hlt
              have hc:Hid (cmpI (val xs) (val ys) = -1):=by
                show _=_
                rw [←vx.out,←vy.out]
                exact cmpI_of_lt (cmp_at wx.out wy.out (by rw [e1.out,e2.out]) (by rw [e1.out];omega) (fun i hi=>hr.out i (by omega)) hlt)
              clear heq hr hlt
              go_wp2
              go_quiet (fail)
              go_wp2
              go_quiet (fail)
              go_wp2
              go_ret
              rw [hc.out]
              exact ⟨rfl,below_draws (below_draws (below_draws (Below.refl _ _) _) _) _⟩
            · have hd:decide (nth X j<nth Y j)=false:=by simpa using hlt
              have hc:Hid (cmpI (val xs) (val ys)=1):=by
                show _=_
                rw [←vx.out,←vy.out]
                exact cmpI_of_gt (cmp_at (k:=j) wy.out wx.out (by rw [e1.out,e2.out]) (by rw [e2.out];omega) (fun i hi=>(hr.out i (by omega)).symm) (by omega))
              clear heq hr hlt
              go_wp2
              go_quiet (fail)
              go_wp2
              go_quiet (fail)
              go_wp2
              go_ret
              rw [hc.out]
              exact ⟨rfl,below_draws (below_draws (below_draws (Below.refl _ _) _) _) _⟩
        · obtain rfl:k=0:=by omega
          have hc:Hid (cmpI (val xs) (val ys)=0):=by
            show _=_
            rw [←vx.out,←vy.out,ext_nth (by rw [e1.out,e2.out]) (fun i=>hr.out i (by omega))]
            exact cmpI_self _
          clear hr
          go_wp2
          go_ret
          rw [hc.out]
          exact ⟨rfl,below_draws (Below.refl _ _) _⟩
  · have hb:((L1:Int) != (L2:Int))=true:=by simp;omega
    by_cases hlt:L1<L2
    · have hd:decide ((L1:Int)<(L2:Int))=true:=by simp;omega
      have hc:Hid (cmpI (val xs) (val ys) = -1):=cmpI_len (by rw [e1.out,e2.out];exact hlt) hvx
      clear hn hn' e1 e2 hne
      go_wp2
      go_ret
      rw [hc.out]
      exact ⟨rfl,Below.refl _ _⟩
    · have hd:decide ((L1:Int)<(L2:Int))=false:=by simp;omega
      have hc:Hid (cmpI (val xs) (val ys)=1):=cmpI_len' (by rw [e1.out,e2.out];omega) hvy
      clear hn hn' e1 e2
      go_wp2
      go_ret
      rw [hc.out]
      exact ⟨rfl,Below.refl _ _⟩
theorem info_u64:(Tryz.prog.info? 52).map (fun i=>(i.zero,i.size,i.bytes))=some (some (.int .u64 0),1,8):=by kernel_rfl
def cellsOf(xs:List Int):Array Value:=(xs.map (Value.int .u64)).toArray
theorem cellsOf_get{xs:List Int}{j:Nat}(h:j<xs.length):(cellsOf xs)[j]?=some (.int .u64 (nth xs j)):=by simp [cellsOf,nth_get? h]
theorem cellsOf_set{xs:List Int}(j:Nat)(x:Int):(cellsOf xs).setIfInBounds j (.int .u64 x)=cellsOf (xs.set j x):=by simp [cellsOf,List.map_set]
theorem madeCells_zero(n:Nat):madeCells #[Value.int .u64 0] n=cellsOf (List.replicate n 0):=by
  apply Array.ext'
  rw [toList_madeCells_one];simp [cellsOf]
def RowAt(w:World)(G:Nat)(xs:List Int):Prop:=w.heap[G]?=some (.cells (cellsOf xs) 52 (0,0))
theorem RowAt.cell{w:World}{G:Nat}{xs:List Int}(h:RowAt w G xs){j:Nat}(hj:j<xs.length):w.cell? ⟨G,j,none⟩=some (.int .u64 (nth xs j)):=by
  rw [cell_of_row w G j _ _ _ h,cellsOf_get hj]
theorem RowAt.frozen{w:World}{G:Nat}{xs:List Int}(h:RowAt w G xs)(j:Nat):w.frozen? ⟨G,j,none⟩=false:=frozen_of_row w G j _ _ h
theorem RowAt.lt{w:World}{G:Nat}{xs:List Int}(h:RowAt w G xs):G<w.heap.size:=(Array.getElem?_eq_some_iff.1 h).1
theorem RowAt.set{w:World}{G:Nat}{xs:List Int}(h:RowAt w G xs)(j:Nat)(x:Int):RowAt (w.setCell ⟨G,j,none⟩ (.int .u64 x)) G (xs.set j x):=by
  unfold RowAt;rw [heap_setCell_same w G j _ _ _ h,cellsOf_set]
theorem RowAt.below{w w':World}{G:Nat}{xs:List Int}(h:RowAt w G xs)(hb:Below w.heap.size w w'):RowAt w' G xs:=(hb.block G h.lt).trans h
theorem RowAt.made(w:World)(n:Nat):RowAt (w.alloc (.cells (cellsOf (List.replicate n 0)) 52)) w.heap.size (List.replicate n 0):=heap_alloc_new w _
theorem RowAt.nat{w:World}{G B:Nat}{xs:List Int}(h:RowAt w G xs)(hB:B≤G)(hw:Words xs)(n:Nat)(hn:xs.length=n)(hl:xs.length≤17592186044415):NatAt B w (.slice (some ⟨G,0,none⟩) n n) xs:=by
  subst hn
  exact ⟨_,_,rfl,Nat.le_refl _,⟨by omega,hl⟩,hw,by simp,fun _=>⟨G,0,rfl,hB,h.lt,fun j hj=>by rw [Nat.zero_add];exact ⟨h.cell hj,h.frozen j⟩⟩⟩
theorem make_run(t:TypeId)(ht:Tryz.prog.underlying t=some (.slice 52))(n:Nat)(hn:n≤35184372088832)(W:World) :
    (Instr.makeSlice t (.int .i64 (n:Int)) (.int .i64 (n:Int))).run Tryz.prog W = .ok (.slice (some ⟨W.heap.size,0,none⟩) n n) (W.alloc (.cells (cellsOf (List.replicate n 0)) 52)):=by
  obtain ⟨i0,hi,h0,h1,h2⟩:=info_parts info_u64
  have hr:=run_make (P:=Tryz.prog) W t _ i0 (.int .u64 0) ht hi h0 .i64 .i64 n n (by omega) (Int.le_refl _) (by rw [h2];omega) (by omega)
  rw [hr,h1,Int.toNat_natCast,Nat.mul_one]
  have:madeCells (Value.int IntKind.u64 0).cells n=cellsOf (List.replicate n 0):=madeCells_zero n
  rw [this]
theorem NatAt.sub{B:Nat}{w:World}{v:Value}{xs:List Int}(h:NatAt B w v xs) :
    ∃ A L c g o,v = .slice A L c∧(0<L→A=some ⟨g,o,none⟩)∧L≤c∧c≤9223372036854775807∧L≤17592186044415∧(0<L→g<w.heap.size)∧(∀ j,j<L→w.cell? ⟨g,o+j,none⟩=some (.int .u64 (nth xs j)))∧Hid (xs.length=L)∧Hid (Words xs):=by
  obtain ⟨A,c,rfl,h1,h2,h3,h5,h4⟩:=h
  by_cases hp:0<xs.length
  · obtain ⟨g,o,rfl,hB,hg,hc⟩:=h4 hp
    exact ⟨_,_,c,g,o,rfl,fun _=>rfl,h1,h2.1,h2.2,fun _=>hg,fun j hj=>(hc j hj).1,rfl,h3⟩
  · exact ⟨_,_,c,0,0,rfl,fun h=>absurd h hp,h1,h2.1,h2.2,fun h=>absurd h hp,fun j hj=>absurd hj (by omega),rfl,h3⟩
set_option maxHeartbeats 1600000 in
theorem ladd_calls{B B':Nat}{w:World}{v v':Value}{xs ys:List Int}(h:NatAt B w v xs)(h':NatAt B' w v' ys)(hx:xs.length≤17592186044414)(hy:ys.length≤17592186044414) :
    Calls Tryz.prog 116 #[v,v'] w (RNat w (ws (val xs+val ys))):=by
  obtain ⟨A1,L1,c1,g1,o1,rfl,a1,k1,q1,l1,hg1,hc1,e1,wx1⟩:=h.sub
  obtain ⟨A2,L2,c2,g2,o2,rfl,a2,k2,q2,l2,hg2,hc2,e2,wx2⟩:=h'.sub
  have b1:L1≤17592186044414:=by have:=e1.out;omega
  have b2:L2≤17592186044414:=by have:=e2.out;omega
  clear h h' hx hy
  by_cases hs:L1<L2
  · have hd:decide ((L1:Int)<(L2:Int))=true:=by simp;omega
    go_enter Tryz.func116,Tryz.ntmps116
    have hmk:=make_run 22 Tryz.underlying22 (L2+1) (by omega)
    rw [show ((L2+1:Nat):Int)=(L2:Int)+1 from by omega] at hmk
    go_wp2
    go_loopw [6,22] (fun c i wr=>∃ (k:Nat) (zs:List Int) (cc:Int),k≤L2∧i = .int .i64 k∧c = .int .u64 cc∧0≤cc∧cc≤1∧w.heap.size<wr.heap.size∧RowAt wr w.heap.size (zs ++ List.replicate (L2+1-k) 0)∧Below w.heap.size w wr∧Hid (zs.length=k∧Words zs∧val zs+wpow k*cc=val (ys.take k)+val (xs.take k))) (fun _ i _=>L2-(intOf i).toNat)
    case atStart =>
      refine ⟨0,[],0,by omega,rfl,rfl,by omega,by omega,by simp,RowAt.made _ _,below_also _ _,?_⟩
      exact ⟨rfl,Words.nil,by simp [val,wpow]⟩
    case round =>
      obtain ⟨k,zs,cc,hk,rfl,rfl,cb0,cb1,hG,hrow,hbel,hr⟩:=hrel
      obtain ⟨hcellsW,hfrozW⟩:=bcell hbel
      by_cases hlt:k<L2
      · obtain rfl:=a2 (by omega)
        have hg1':=hg2 (by omega)
        have hlen:Hid ((zs ++ List.replicate (L2+1-k) 0).length=L2+1):=by
          show _=_
          rw [List.length_append,List.length_replicate,hr.out.1];omega
        have hxk:wr.cell? ⟨g2,o2+k,none⟩=some (.int .u64 (nth ys k)):=(hcellsW _ _ hg1').trans (hc2 k (by omega))
        have hout:wr.cell? ⟨w.heap.size,k,none⟩=some (.int .u64 (nth (zs ++ List.replicate (L2+1-k) 0) k)):=hrow.cell (by rw [hlen.out];omega)
        have hfr:wr.frozen? ⟨w.heap.size,k,none⟩=false:=hrow.frozen k
        have wxk:Hid (Word (nth ys k)):=wx2.out.nth k
        have wyk:Hid (Word (nth xs k)):=wx1.out.nth k
        have hrun:=fun (y:Int) (hy:y=nth xs k) (W:World)=>add64_run (x:=nth ys k) (y:=y) (c:=cc) wxk.out (by rw [hy];exact wyk.out) ⟨cb0,cb1⟩ W
        have hnew:Hid (RowAt (wr.setCell ⟨w.heap.size,k,none⟩ (.int .u64 (lo64 (nth ys k+nth xs k+cc)))) w.heap.size ((zs ++ [lo64 (nth ys k+nth xs k+cc)]) ++ List.replicate (L2+1-(k+1)) 0)):=by
          have:=hrow.set k (lo64 (nth ys k+nth xs k+cc))
          rw [List.set_append_right _ _ (by rw [hr.out.1];omega),hr.out.1,Nat.sub_self,show L2+1-k=(L2+1-(k+1))+1 from by omega,List.replicate_succ,List.set_cons_zero] at this
          rw [List.append_assoc,List.singleton_append];exact this
        have hrel':Hid ((zs ++ [lo64 (nth ys k+nth xs k+cc)]).length=k+1∧Words (zs ++ [lo64 (nth ys k+nth xs k+cc)])∧val (zs ++ [lo64 (nth ys k+nth xs k+cc)])+wpow (k+1)*hi64 (nth ys k+nth xs k+cc)=val (ys.take (k+1))+val (xs.take (k+1))):=by
          obtain ⟨r1,r2,r3⟩:=hr.out
          refine ⟨by simp [r1],r2.append (Words.nil.cons (lo64_word _)),?_⟩
          rw [val_append,r1,wpow_succ,val_take_more,val_take_more]
          have:=lo_hi (nth ys k+nth xs k+cc)
          simp only [val]
          grind
        have hbit:Hid (0≤hi64 (nth ys k+nth xs k+cc)∧hi64 (nth ys k+nth xs k+cc)≤1):=hi64_bit wxk.out wyk.out ⟨cb0,cb1⟩
        have hbel':Hid (Below w.heap.size w wr):=hbel
        clear hr hlen hrow hbel
        by_cases hly:k<L1
        · obtain rfl:=a1 (by omega)
          have hyk:wr.cell? ⟨g1,o1+k,none⟩=some (.int .u64 (nth xs k)):=(hcellsW _ _ (hg1 (by omega))).trans (hc1 k (by omega))
          have hrun':=hrun _ rfl
          clear hrun hcellsW hfrozW
          go_wp2
          go_roundw
          case rel=>exact ⟨k+1,_,_,by omega,by go_num,rfl,hbit.out.1,hbit.out.2,by simpa using hG,hnew.out,hbel'.out.setCell (Nat.le_refl _) _,hrel'⟩
          case measure=>simp [intOf];omega
        · have hy0:Hid (nth xs k=0):=nth_ge (by have:=e1.out;omega)
          have hrun':=hrun 0 hy0.out.symm
          clear hrun hcellsW hfrozW
          simp only [hy0.out,Int.add_zero] at hnew hrel' hbit
          go_wp2
          go_roundw
          case rel=>exact ⟨k+1,_,_,by omega,by go_num,rfl,hbit.out.1,hbit.out.2,by simpa using hG,hnew.out,hbel'.out.setCell (Nat.le_refl _) _,hrel'⟩
          case measure=>simp [intOf];omega
      · obtain rfl:L2=k:=by omega
        have hlen:Hid ((zs ++ List.replicate (L2+1-L2) 0).length=L2+1):=by
          show _=_
          rw [List.length_append,List.length_replicate,hr.out.1];omega
        have hout:wr.cell? ⟨w.heap.size,L2,none⟩=some (.int .u64 (nth (zs ++ List.replicate (L2+1-L2) 0) L2)):=hrow.cell (by rw [hlen.out];omega)
        have hfr:wr.frozen? ⟨w.heap.size,L2,none⟩=false:=hrow.frozen _
        have wcc:Word cc:=⟨by omega,by omega⟩
        have hnew:RowAt (wr.setCell ⟨w.heap.size,L2,none⟩ (.int .u64 cc)) w.heap.size (zs ++ [cc]):=by
          have:=hrow.set L2 cc
          rw [List.set_append_right _ _ (by rw [hr.out.1];omega),hr.out.1,Nat.sub_self,show L2+1-L2=1 from by omega] at this
          exact this
        have hval:Hid (val (zs ++ [cc])=val xs+val ys):=by
          obtain ⟨r1,r2,r3⟩:=hr.out
          show _=_
          rw [val_take_all _ _ (by rw [e2.out];omega),val_take_all _ _ (by rw [e1.out];omega)] at r3
          rw [val_append,r1];simp only [val,Int.mul_zero,Int.add_zero];omega
        have hn:Hid (NatAt w.heap.size (wr.setCell ⟨w.heap.size,L2,none⟩ (.int .u64 cc)) (.slice (some ⟨w.heap.size,0,none⟩) (L2+1) (L2+1)) (zs ++ [cc])) :=
          hnew.nat (Nat.le_refl _) (hr.out.2.1.append (Words.nil.cons wcc)) _ (by simp [hr.out.1]) (by simp [hr.out.1];omega)
        have hbel':Hid (Below w.heap.size w wr):=hbel
        clear hr hlen hrow hbel hcellsW hfrozW hnew
        go_wp2_with fail
        refine (trim_calls hn.out).mono ?_
        rintro e w' ⟨v',rfl,hn',rfl⟩
        go_wp2
        go_ret
        refine ⟨_,rfl,?_,hbel'.out.setCell (Nat.le_refl _) _⟩
        rw [←hval.out];exact hn'
  · have hd:decide ((L1:Int)<(L2:Int))=false:=by simp;omega
    go_enter Tryz.func116,Tryz.ntmps116
    have hmk:=make_run 22 Tryz.underlying22 (L1+1) (by omega)
    rw [show ((L1+1:Nat):Int)=(L1:Int)+1 from by omega] at hmk
    go_wp2
    go_loopw [6,22] (fun c i wr=>∃ (k:Nat) (zs:List Int) (cc:Int),k≤L1∧i = .int .i64 k∧c = .int .u64 cc∧0≤cc∧cc≤1∧w.heap.size<wr.heap.size∧RowAt wr w.heap.size (zs ++ List.replicate (L1+1-k) 0)∧Below w.heap.size w wr∧Hid (zs.length=k∧Words zs∧val zs+wpow k*cc=val (xs.take k)+val (ys.take k))) (fun _ i _=>L1-(intOf i).toNat)
    case atStart =>
      refine ⟨0,[],0,by omega,rfl,rfl,by omega,by omega,by simp,RowAt.made _ _,below_also _ _,?_⟩
      exact ⟨rfl,Words.nil,by simp [val,wpow]⟩
    case round =>
      obtain ⟨k,zs,cc,hk,rfl,rfl,cb0,cb1,hG,hrow,hbel,hr⟩:=hrel
      obtain ⟨hcellsW,hfrozW⟩:=bcell hbel
      by_cases hlt:k<L1
      · obtain rfl:=a1 (by omega)
        have hg1':=hg1 (by omega)
        have hlen:Hid ((zs ++ List.replicate (L1+1-k) 0).length=L1+1):=by
          show _=_
          rw [List.length_append,List.length_replicate,hr.out.1];omega
        have hxk:wr.cell? ⟨g1,o1+k,none⟩=some (.int .u64 (nth xs k)):=(hcellsW _ _ hg1').trans (hc1 k (by omega))
        have hout:wr.cell? ⟨w.heap.size,k,none⟩=some (.int .u64 (nth (zs ++ List.replicate (L1+1-k) 0) k)):=hrow.cell (by rw [hlen.out];omega)
        have hfr:wr.frozen? ⟨w.heap.size,k,none⟩=false:=hrow.frozen k
        have wxk:Hid (Word (nth xs k)):=wx1.out.nth k
        have wyk:Hid (Word (nth ys k)):=wx2.out.nth k
        have hrun:=fun (y:Int) (hy:y=nth ys k) (W:World)=>add64_run (x:=nth xs k) (y:=y) (c:=cc) wxk.out (by rw [hy];exact wyk.out) ⟨cb0,cb1⟩ W
        have hnew:Hid (RowAt (wr.setCell ⟨w.heap.size,k,none⟩ (.int .u64 (lo64 (nth xs k+nth ys k+cc)))) w.heap.size ((zs ++ [lo64 (nth xs k+nth ys k+cc)]) ++ List.replicate (L1+1-(k+1)) 0)):=by
          have:=hrow.set k (lo64 (nth xs k+nth ys k+cc))
          rw [List.set_append_right _ _ (by rw [hr.out.1];omega),hr.out.1,Nat.sub_self,show L1+1-k=(L1+1-(k+1))+1 from by omega,List.replicate_succ,List.set_cons_zero] at this
          rw [List.append_assoc,List.singleton_append];exact this
        have hrel':Hid ((zs ++ [lo64 (nth xs k+nth ys k+cc)]).length=k+1∧Words (zs ++ [lo64 (nth xs k+nth ys k+cc)])∧val (zs ++ [lo64 (nth xs k+nth ys k+cc)])+wpow (k+1)*hi64 (nth xs k+nth ys k+cc)=val (xs.take (k+1))+val (ys.take (k+1))):=by
          obtain ⟨r1,r2,r3⟩:=hr.out
          refine ⟨by simp [r1],r2.append (Words.nil.cons (lo64_word _)),?_⟩
          rw [val_append,r1,wpow_succ,val_take_more,val_take_more]
          have:=lo_hi (nth xs k+nth ys k+cc)
          simp only [val]
          grind
        have hbit:Hid (0≤hi64 (nth xs k+nth ys k+cc)∧hi64 (nth xs k+nth ys k+cc)≤1):=hi64_bit wxk.out wyk.out ⟨cb0,cb1⟩
        have hbel':Hid (Below w.heap.size w wr):=hbel
        clear hr hlen hrow hbel
        by_cases hly:k<L2
        · obtain rfl:=a2 (by omega)
          have hyk:wr.cell? ⟨g2,o2+k,none⟩=some (.int .u64 (nth ys k)):=(hcellsW _ _ (hg2 (by omega))).trans (hc2 k (by omega))
          have hrun':=hrun _ rfl
          clear hrun hcellsW hfrozW
          go_wp2
          go_roundw
          case rel=>exact ⟨k+1,_,_,by omega,by go_num,rfl,hbit.out.1,hbit.out.2,by simpa using hG,hnew.out,hbel'.out.setCell (Nat.le_refl _) _,hrel'⟩
          case measure=>simp [intOf];omega
        · have hy0:Hid (nth ys k=0):=nth_ge (by have:=e2.out;omega)
          have hrun':=hrun 0 hy0.out.symm
          clear hrun hcellsW hfrozW
          simp only [hy0.out,Int.add_zero] at hnew hrel' hbit
          go_wp2
          go_roundw
          case rel=>exact ⟨k+1,_,_,by omega,by go_num,rfl,hbit.out.1,hbit.out.2,by simpa using hG,hnew.out,hbel'.out.setCell (Nat.le_refl _) _,hrel'⟩
          case measure=>simp [intOf];omega
      · obtain rfl:L1=k:=by omega
        have hlen:Hid ((zs ++ List.replicate (L1+1-L1) 0).length=L1+1):=by
          show _=_
          rw [List.length_append,List.length_replicate,hr.out.1];omega
        have hout:wr.cell? ⟨w.heap.size,L1,none⟩=some (.int .u64 (nth (zs ++ List.replicate (L1+1-L1) 0) L1)):=hrow.cell (by rw [hlen.out];omega)
        have hfr:wr.frozen? ⟨w.heap.size,L1,none⟩=false:=hrow.frozen _
        have wcc:Word cc:=⟨by omega,by omega⟩
        have hnew:RowAt (wr.setCell ⟨w.heap.size,L1,none⟩ (.int .u64 cc)) w.heap.size (zs ++ [cc]):=by
          have:=hrow.set L1 cc
          rw [List.set_append_right _ _ (by rw [hr.out.1];omega),hr.out.1,Nat.sub_self,show L1+1-L1=1 from by omega] at this
          exact this
        have hval:Hid (val (zs ++ [cc])=val xs+val ys):=by
          obtain ⟨r1,r2,r3⟩:=hr.out
          show _=_
          rw [val_take_all _ _ (by rw [e1.out];omega),val_take_all _ _ (by rw [e2.out];omega)] at r3
          rw [val_append,r1];simp only [val,Int.mul_zero,Int.add_zero];omega
        have hn:Hid (NatAt w.heap.size (wr.setCell ⟨w.heap.size,L1,none⟩ (.int .u64 cc)) (.slice (some ⟨w.heap.size,0,none⟩) (L1+1) (L1+1)) (zs ++ [cc])) :=
          hnew.nat (Nat.le_refl _) (hr.out.2.1.append (Words.nil.cons wcc)) _ (by simp [hr.out.1]) (by simp [hr.out.1];omega)
        have hbel':Hid (Below w.heap.size w wr):=hbel
        clear hr hlen hrow hbel hcellsW hfrozW hnew
        go_wp2_with fail
        refine (trim_calls hn.out).mono ?_
        rintro e w' ⟨v',rfl,hn',rfl⟩
        go_wp2
        go_ret
        refine ⟨_,rfl,?_,hbel'.out.setCell (Nat.le_refl _) _⟩
        rw [←hval.out];exact hn'
set_option maxHeartbeats 1600000 in
theorem lsub_calls{B B':Nat}{w:World}{v v':Value}{xs ys:List Int}(h:NatAt B w v xs)(h':NatAt B' w v' ys)(hle:val ys≤val xs) :
    Calls Tryz.prog 126 #[v,v'] w (RNat w (ws (val xs-val ys))):=by
  obtain ⟨A1,L1,c1,g1,o1,rfl,a1,k1,q1,l1,hg1,hc1,e1,wx1⟩:=h.sub
  obtain ⟨A2,L2,c2,g2,o2,rfl,a2,k2,q2,l2,hg2,hc2,e2,wx2⟩:=h'.sub
  have HLE:=Lib.hid hle
  clear h h' hle
  go_enter Tryz.func126,Tryz.ntmps126
  have hmk:=make_run 22 Tryz.underlying22 (L1) (by omega)
  go_wp2
  go_loopw [6,14] (fun c i wr=>∃ (k:Nat) (zs:List Int) (cc:Int),k≤L1∧i = .int .i64 k∧c = .int .u64 cc∧0≤cc∧cc≤1∧w.heap.size<wr.heap.size∧RowAt wr w.heap.size (zs ++ List.replicate (L1-k) 0)∧Below w.heap.size w wr∧Hid (zs.length=k∧Words zs∧val zs-wpow k*cc=val (xs.take k)-val (ys.take k))) (fun _ i _=>L1-(intOf i).toNat)
  case atStart =>
    refine ⟨0,[],0,by omega,rfl,rfl,by omega,by omega,by simp,RowAt.made _ _,below_also _ _,?_⟩
    exact ⟨rfl,Words.nil,by simp [val,wpow]⟩
  case round =>
    obtain ⟨k,zs,cc,hk,rfl,rfl,cb0,cb1,hG,hrow,hbel,hr⟩:=hrel
    obtain ⟨hcellsW,hfrozW⟩:=bcell hbel
    by_cases hlt:k<L1
    · obtain rfl:=a1 (by omega)
      have hg1':=hg1 (by omega)
      have hlen:Hid ((zs ++ List.replicate (L1-k) 0).length=L1):=by
        show _=_
        rw [List.length_append,List.length_replicate,hr.out.1];omega
      have hxk:wr.cell? ⟨g1,o1+k,none⟩=some (.int .u64 (nth xs k)):=(hcellsW _ _ hg1').trans (hc1 k (by omega))
      have hout:wr.cell? ⟨w.heap.size,k,none⟩=some (.int .u64 (nth (zs ++ List.replicate (L1-k) 0) k)):=hrow.cell (by rw [hlen.out];omega)
      have hfr:wr.frozen? ⟨w.heap.size,k,none⟩=false:=hrow.frozen k
      have wxk:Hid (Word (nth xs k)):=wx1.out.nth k
      have wyk:Hid (Word (nth ys k)):=wx2.out.nth k
      have hrun:=fun (y:Int) (hy:y=nth ys k) (W:World)=>sub64_run (x:=nth xs k) (y:=y) (c:=cc) wxk.out (by rw [hy];exact wyk.out) ⟨cb0,cb1⟩ W
      have hnew:Hid (RowAt (wr.setCell ⟨w.heap.size,k,none⟩ (.int .u64 (lo64 (nth xs k-nth ys k-cc)))) w.heap.size ((zs ++ [lo64 (nth xs k-nth ys k-cc)]) ++ List.replicate (L1-(k+1)) 0)):=by
        have:=hrow.set k (lo64 (nth xs k-nth ys k-cc))
        rw [List.set_append_right _ _ (by rw [hr.out.1];omega),hr.out.1,Nat.sub_self,show L1-k=(L1-(k+1))+1 from by omega,List.replicate_succ,List.set_cons_zero] at this
        rw [List.append_assoc,List.singleton_append];exact this
      have hrel':Hid ((zs ++ [lo64 (nth xs k-nth ys k-cc)]).length=k+1∧Words (zs ++ [lo64 (nth xs k-nth ys k-cc)])∧val (zs ++ [lo64 (nth xs k-nth ys k-cc)])-wpow (k+1) * -hi64 (nth xs k-nth ys k-cc)=val (xs.take (k+1))-val (ys.take (k+1))):=by
        obtain ⟨r1,r2,r3⟩:=hr.out
        refine ⟨by simp [r1],r2.append (Words.nil.cons (lo64_word _)),?_⟩
        rw [val_append,r1,wpow_succ,val_take_more,val_take_more]
        have:=lo_hi (nth xs k-nth ys k-cc)
        simp only [val]
        grind
      have hbit:Hid (0≤-hi64 (nth xs k-nth ys k-cc)∧-hi64 (nth xs k-nth ys k-cc)≤1):=hi64_borrow wxk.out wyk.out ⟨cb0,cb1⟩
      have hbel':Hid (Below w.heap.size w wr):=hbel
      clear hr hlen hrow hbel
      by_cases hly:k<L2
      · obtain rfl:=a2 (by omega)
        have hyk:wr.cell? ⟨g2,o2+k,none⟩=some (.int .u64 (nth ys k)):=(hcellsW _ _ (hg2 (by omega))).trans (hc2 k (by omega))
        have hrun':=hrun _ rfl
        clear hrun hcellsW hfrozW
        go_wp2
        go_roundw
        case rel=>exact ⟨k+1,_,_,by omega,by go_num,rfl,hbit.out.1,hbit.out.2,by simpa using hG,hnew.out,hbel'.out.setCell (Nat.le_refl _) _,hrel'⟩
        case measure=>simp [intOf];omega
      · have hy0:Hid (nth ys k=0):=nth_ge (by have:=e2.out;omega)
        have hrun':=hrun 0 hy0.out.symm
        clear hrun hcellsW hfrozW
        simp only [hy0.out,Int.sub_zero] at hnew hrel' hbit
        go_wp2
        go_roundw
        case rel=>exact ⟨k+1,_,_,by omega,by go_num,rfl,hbit.out.1,hbit.out.2,by simpa using hG,hnew.out,hbel'.out.setCell (Nat.le_refl _) _,hrel'⟩
        case measure=>simp [intOf];omega
    · obtain rfl:L1=k:=by omega
      have hval:Hid (val zs=val xs-val ys):=by
        obtain ⟨r1,r2,r3⟩:=hr.out
        show _=_
        have hle:=HLE.out
        have z1:=val_lt r2
        have z0:=val_nonneg r2
        have x1:=val_lt wx1.out
        rw [e1.out] at x1
        rw [r1] at z1
        rw [val_take_all _ _ (by rw [e1.out];omega)] at r3
        have p:=wpow_pos L1
        have hyt:val (ys.take L1)=val ys:=by
          by_cases hl:L1≤ys.length
          · have s:=val_split ys L1 hl
            have t0:=val_nonneg (wx2.out.take L1)
            have d0:=val_nonneg (wx2.out.drop L1)
            rcases Int.lt_or_eq_of_le d0 with hd | hd
            · have:=imL (show 1≤val (ys.drop L1) by omega) (show 0≤wpow L1 by omega)
              omega
            · rw [←hd] at s;omega
          · exact val_take_all _ _ (by omega)
        rw [hyt] at r3
        rcases (show cc=0∨cc=1 by omega) with rfl | rfl<;>omega
      have hn:Hid (NatAt w.heap.size wr (.slice (some ⟨w.heap.size,0,none⟩) L1 L1) zs):=by
        rw [Nat.sub_self,List.replicate_zero,List.append_nil] at hrow
        exact hrow.nat (Nat.le_refl _) hr.out.2.1 _ (by simp [hr.out.1]) (by simp [hr.out.1];omega)
      have hbel':Hid (Below w.heap.size w wr):=hbel
      clear hr hrow hbel hcellsW hfrozW
      go_wp2_with fail
      refine (trim_calls hn.out).mono ?_
      rintro e w' ⟨v',rfl,hn',rfl⟩
      go_wp2
      go_ret
      refine ⟨_,rfl,?_,hbel'.out⟩
      rw [←hval.out];exact hn'
theorem mulstep{x y cc ov:Int}(hx:Word x)(hy:Word y)(hc:Word cc)(ho:Word ov) :
    ∃ h l l2 c2 o2 c3:Int,(∀ W,Calls Tryz.prog 132 #[.int .u64 x,.int .u64 y] W fun e w'=>e = .returned (.tuple #[.int .u64 h,.int .u64 l])∧W=w') ∧
      (∀ W,(callFunc 131 #[.int .u64 l,.int .u64 cc,.int .u64 0]).run Tryz.prog W = .ok (.value (.tuple #[.int .u64 l2,.int .u64 c2])) W) ∧
      (∀ W,(callFunc 131 #[.int .u64 ov,.int .u64 l2,.int .u64 0]).run Tryz.prog W = .ok (.value (.tuple #[.int .u64 o2,.int .u64 c3])) W) ∧
      0≤h∧0≤c2∧h+c2≤18446744073709551615∧0≤c3∧h+c2+c3≤18446744073709551615∧Hid (Word o2∧o2+18446744073709551616*(h+c2+c3)=ov+cc+x*y):=by
  have e1:=lo_hi (x*y)
  have e2:=lo_hi (lo64 (x*y)+cc+0)
  have e3:=lo_hi (ov+lo64 (lo64 (x*y)+cc+0)+0)
  have w1:=lo64_word (x*y)
  have w2:=lo64_word (lo64 (x*y)+cc+0)
  have w3:=lo64_word (ov+lo64 (lo64 (x*y)+cc+0)+0)
  have b2:=hi64_bit w1 hc (c:=0) ⟨by omega,by omega⟩
  have b3:=hi64_bit ho w2 (c:=0) ⟨by omega,by omega⟩
  refine ⟨_,_,_,_,_,_,fun W=>mul64_calls x y W hx hy,add64_run w1 hc ⟨by omega,by omega⟩,add64_run ho w2 ⟨by omega,by omega⟩,?_⟩
  have p0:0≤x*y:=Int.mul_nonneg hx.1 hy.1
  have p1:x*y≤18446744073709551615*18446744073709551615:=by
    have:=hx.2;have:=hy.2
    exact Int.mul_le_mul (by omega) (by omega) hy.1 (by omega)
  have h0:0≤hi64 (x*y):=by unfold hi64;omega
  have hc2:=hc.2;have hc1:=hc.1;have ho1:=ho.1;have ho2:=ho.2
  generalize x*y=P at *
  generalize hi64 P=H at *
  generalize lo64 P=Lw at *
  generalize hi64 (Lw+cc+0)=C2 at *
  generalize lo64 (Lw+cc+0)=L2 at *
  generalize hi64 (ov+L2+0)=C3 at *
  generalize lo64 (ov+L2+0)=O2 at *
  have:=w1.1;have:=w1.2;have:=w2.1;have:=w2.2;have:=w3.1;have:=w3.2
  refine ⟨h0,b2.1,?_,b3.1,?_,w3,?_⟩<;>omega
theorem mul_inner{outs Y:List Int}{k j:Nat}{V x cc o2 cn:Int}(hk:k+j<outs.length)(_:j<Y.length)
    (hv:val outs+wpow (k+j)*cc=V+wpow k*(x*val (Y.take j))) (he:o2+18446744073709551616*cn=nth outs (k+j)+cc+x*nth Y j) :
    val (outs.set (k+j) o2)+wpow (k+(j+1))*cn=V+wpow k*(x*val (Y.take (j+1))):=by
  rw [val_set _ _ _ hk,val_take_more,wpow_add k (j+1),wpow_succ]
  rw [wpow_add] at hv ⊢
  generalize wpow k=A at *
  generalize wpow j=B at *
  generalize val outs=a at *
  generalize val (Y.take j)=b at *
  generalize nth outs (k+j)=c at *
  generalize nth Y j=d at *
  have:A*B*(o2+18446744073709551616*cn)=A*B*(c+cc+x*d):=by rw [he]
  grind
set_option maxHeartbeats 3200000 in
theorem lmul_calls{B B':Nat}{w:World}{v v':Value}{xs ys:List Int}(h:NatAt B w v xs)(h':NatAt B' w v' ys)(hm:(ws (val xs)).length+(ws (val ys)).length≤17592186044415) :
    Calls Tryz.prog 117 #[v,v'] w (RNat w (ws (val xs*val ys))):=by
  have hvx:=val_nonneg h.words
  have hvy:=val_nonneg h'.words
  go_enter Tryz.func117,Tryz.ntmps117
  go_wp2_with fail
  refine (trim_calls h).mono ?_
  rintro e w' ⟨v1,rfl,hn,rfl⟩
  go_wp2_with fail
  refine (trim_calls h').mono ?_
  rintro e w' ⟨v2,rfl,hn',rfl⟩
  clear h h'
  obtain ⟨A1,L1,c1,g1,o1,rfl,a1,k1,q1,l1,hg1,hc1,e1,wx⟩:=hn.sub
  obtain ⟨A2,L2,c2,g2,o2,rfl,a2,k2,q2,l2,hg2,hc2,e2,wy⟩:=hn'.sub
  have vx:Hid (val (ws (val xs))=val xs):=val_ws hvx
  have vy:Hid (val (ws (val ys))=val ys):=val_ws hvy
  have hm':L1+L2≤17592186044415:=by have:=e1.out;have:=e2.out;omega
  clear hn hn' hvx hvy hm
  generalize val xs=nx at *
  generalize val ys=ny at *
  generalize ws nx=X at *
  generalize ws ny=Y at *
  have hmk:=make_run 22 Tryz.underlying22 (L1+L2) (by omega)
  rw [show ((L1+L2:Nat):Int)=(L1:Int)+(L2:Int) from by omega] at hmk
  go_wp2
  go_loopw [26] (fun i wr=>∃ (k:Nat) (outs:List Int),k≤L1∧i = .int .i64 k∧w.heap.size<wr.heap.size∧RowAt wr w.heap.size outs∧Below w.heap.size w wr∧Hid (outs.length=L1+L2∧Words outs∧val outs=val (X.take k)*val Y∧∀ j,k+L2≤j→nth outs j=0)) (fun i _=>L1-(intOf i).toNat)
  case atStart =>
    refine ⟨0,List.replicate (L1+L2) 0,by omega,rfl,by simp,RowAt.made _ _,below_also _ _,by simp,Words.zeros _,?_,fun j _=>nth_zeros _ _⟩
    rw [val_zeros];simp [val]
  case round =>
    obtain ⟨k,outs,hk,rfl,hG,hrow,hbel,hr⟩:=hrel
    obtain ⟨wo,rfl⟩:∃ wo:World,wo=wr:=⟨_,rfl⟩
    by_cases hlt:k<L1
    · obtain rfl:=a1 (by omega)
      have hg1':=hg1 (by omega)
      have hxk:wo.cell? ⟨g1,o1+k,none⟩=some (.int .u64 (nth X k)):=((bcell hbel).1 _ _ hg1').trans (hc1 k hlt)
      go_wp2
      go_loopw [8,33] (fun c j wr=>∃ (t:Nat) (cc:Int) (os:List Int),t≤L2∧j = .int .i64 t∧c = .int .u64 cc∧w.heap.size<wr.heap.size∧RowAt wr w.heap.size os∧Below w.heap.size w wr∧Hid (Word cc∧os.length=L1+L2∧Words os∧val os+wpow (k+t)*cc=val outs+wpow k*(nth X k*val (Y.take t))∧∀ j,k+t≤j→nth os j=nth outs j)) (fun _ j _=>L2-(intOf j).toNat)
      case atStart =>
        obtain ⟨r1,r2,r3,r4⟩:=hr.out
        refine ⟨0,0,outs,by omega,rfl,rfl,hG,hrow,hbel,⟨by omega,by omega⟩,r1,r2,?_,fun _ _=>rfl⟩
        simp [val]
      case round =>
        obtain ⟨t,cc,os,ht,rfl,rfl,hG',hrow',hbel',hr'⟩:=hrel
        by_cases hlt2:t<L2
        · obtain rfl:=a2 (by omega)
          have hg2':=hg2 (by omega)
          have hyk:wr.cell? ⟨g2,o2+t,none⟩=some (.int .u64 (nth Y t)):=((bcell hbel').1 _ _ hg2').trans (hc2 t hlt2)
          have hlen:k+t<os.length:=by rw [hr'.out.2.1];omega
          have hout:wr.cell? ⟨w.heap.size,k+t,none⟩=some (.int .u64 (nth os (k+t))):=hrow'.cell hlen
          have hfr:wr.frozen? ⟨w.heap.size,k+t,none⟩=false:=hrow'.frozen _
          obtain ⟨hh,l,l2,cc2,on,cc3,hmul,hadd1,hadd2,p1,p2,p3,p4,p5,hfin⟩:=mulstep (wx.out.nth k) (wy.out.nth t) hr'.out.1 (hr'.out.2.2.1.nth (k+t))
          have hnew:Hid (RowAt (wr.setCell ⟨w.heap.size,k+t,none⟩ (.int .u64 on)) w.heap.size (os.set (k+t) on)):=hrow'.set _ _
          have hbel2:Hid (Below w.heap.size w wr):=hbel'
          have hrel':Hid (Word (hh+cc2+cc3)∧(os.set (k+t) on).length=L1+L2∧Words (os.set (k+t) on)∧val (os.set (k+t) on)+wpow (k+(t+1))*(hh+cc2+cc3)=val outs+wpow k*(nth X k*val (Y.take (t+1)))∧∀ j,k+(t+1)≤j→nth (os.set (k+t) on) j=nth outs j):=by
            obtain ⟨q1,q2,q3,q4,q5⟩:=hr'.out
            obtain ⟨f1,f2⟩:=hfin.out
            refine ⟨⟨by omega,by omega⟩,by simp [q2],q3.set _ f1,mul_inner hlen (by rw [e2.out];omega) q4 f2,fun j hj=>?_⟩
            rw [nth_set_ne _ (by omega),q5 j (by omega)]
          clear hfin hr' hrow' hbel' hlen hr hrow hbel hxk
          have HM:=Lib.hid hmul;clear hmul
          go_wp2_with fail
          refine (HM.out _).mono ?_
          rintro e w' ⟨rfl,rfl⟩
          go_wp2
          go_roundw
          case rel=>exact ⟨t+1,_,_,by omega,by go_num,rfl,by simpa using hG',hnew.out,hbel2.out.setCell (Nat.le_refl _) _,hrel'⟩
          case measure=>simp [intOf];omega
        · obtain rfl:L2=t:=by omega
          have hlen:k+L2<os.length:=by rw [hr'.out.2.1];omega
          have hout:wr.cell? ⟨w.heap.size,k+L2,none⟩=some (.int .u64 (nth os (k+L2))):=hrow'.cell hlen
          have hfr:wr.frozen? ⟨w.heap.size,k+L2,none⟩=false:=hrow'.frozen _
          have hnew:Hid (RowAt (wr.setCell ⟨w.heap.size,k+L2,none⟩ (.int .u64 cc)) w.heap.size (os.set (k+L2) cc)):=hrow'.set _ _
          have hbel2:Hid (Below w.heap.size w wr):=hbel'
          have hrel':Hid ((os.set (k+L2) cc).length=L1+L2∧Words (os.set (k+L2) cc)∧val (os.set (k+L2) cc)=val (X.take (k+1))*val Y∧∀ j,k+1+L2≤j→nth (os.set (k+L2) cc) j=0):=by
            obtain ⟨q1,q2,q3,q4,q5⟩:=hr'.out
            obtain ⟨r1,r2,r3,r4⟩:=hr.out
            refine ⟨by simp [q2],q3.set _ q1,?_,fun j hj=>?_⟩
            · rw [val_set _ _ _ hlen,q5 _ (Nat.le_refl _),r4 _ (Nat.le_refl _),val_take_more]
              rw [val_take_all _ _ (by rw [e2.out];omega),r3] at q4
              grind
            · rw [nth_set_ne _ (by omega),q5 j (by omega),r4 j (by omega)]
          clear hr' hrow' hbel' hlen hr hrow hbel hxk
          go_wp2
          go_roundw
          case rel=>exact ⟨k+1,_,by omega,by go_num,by simpa using hG',hnew.out,hbel2.out.setCell (Nat.le_refl _) _,hrel'⟩
          case measure=>simp [intOf];omega
    · obtain rfl:L1=k:=by omega
      obtain ⟨r1,r2,r3,r4⟩:=hr.out
      have hn:Hid (NatAt w.heap.size wo (.slice (some ⟨w.heap.size,0,none⟩) (L1+L2) (L1+L2)) outs):=hrow.nat (Nat.le_refl _) r2 _ r1 (by rw [r1];omega)
      have hval:Hid (val outs=nx*ny):=by
        show _=_
        rw [r3,val_take_all _ _ (by rw [e1.out];omega),vx.out,vy.out]
      have hbel2:Hid (Below w.heap.size w wo):=hbel
      clear hr r1 r2 r3 r4 hrow hbel
      go_wp2_with fail
      refine (trim_calls hn.out).mono ?_
      rintro e w' ⟨v',rfl,hn',rfl⟩
      go_wp2
      go_ret
      refine ⟨_,rfl,?_,hbel2.out⟩
      rw [←hval.out];exact hn'
theorem or_disjoint{a b c:Int}{r:Nat}(ha0:0≤a)(ha:a<2^r)(hb:b=2^r*c)(hc:0≤c)(hb64:b<18446744073709551616)(hr:r≤64):bits BinOp.or IntKind.u64 a b=a+b:=by
  have p:=two_pow_pos r
  have hb0:0≤b:=by rw [hb];exact Int.mul_nonneg (by omega) hc
  have ha64:a<18446744073709551616:=by
    have:=two_pow_le hr
    have e:(2:Int)^64=18446744073709551616:=by decide
    omega
  obtain ⟨a,rfl⟩:=Int.eq_ofNat_of_zero_le ha0
  obtain ⟨b,rfl⟩:=Int.eq_ofNat_of_zero_le hb0
  obtain ⟨c,rfl⟩:=Int.eq_ofNat_of_zero_le hc
  rw [bits_or_u64_nat a b (by omega) (by omega)]
  have hb':b=2^r*c:=by
    have:((b:Nat):Int)=((2^r*c:Nat):Int):=by rw [hb];simp
    exact_mod_cast this
  have ha':a<2^r:=by
    have:((a:Nat):Int)<((2^r:Nat):Int):=by rw [two_pow_cast];exact ha
    exact_mod_cast this
  have:=Nat.two_pow_add_eq_or_of_lt ha' c
  rw [Nat.or_comm,hb',←this]
  simp;omega
theorem wrap_lo(x:Int):IntKind.u64.wrap x=lo64 x:=by rw [IntKind.wrap_u64];rfl
theorem shl_word{x:Int}{r:Nat}(hx:Word x)(hr:r<64) :
    (∃ c,0≤c∧lo64 (x*2^r)=2^r*c)∧lo64 (x*2^r)+18446744073709551616*(x/2^(64-r))=x*2^r∧x/2^(64-r)<2^r∧0≤x/2^(64-r):=by
  have p:=two_pow_pos r
  have p2:=two_pow_pos (64-r)
  have e:(18446744073709551616:Int)=2^r*2^(64-r):=by
    rw [←Int.pow_add,show r+(64-r)=64 from by omega];decide
  have h0:=hx.1;have h1:=hx.2
  have d0:0≤x/2^(64-r):=Int.ediv_nonneg h0 (by omega)
  have key:lo64 (x*2^r)=2^r*(x % 2^(64-r)):=by
    unfold lo64
    rw [e,Int.mul_comm x,Int.mul_emod_mul_of_pos _ _ p]
  refine ⟨⟨x % 2^(64-r),Int.emod_nonneg _ (by omega),key⟩,?_,?_,d0⟩
  · rw [key,e]
    have:=Int.mul_ediv_add_emod x (2^(64-r))
    generalize x/2^(64-r)=A at *
    generalize x % 2^(64-r)=M at *
    generalize (2:Int)^(64-r)=Q at *
    rw [←this];grind
  · rw [e] at h1
    exact Int.ediv_lt_of_lt_mul p2 h1
theorem shl_step{outs X:List Int}{q k r:Nat}{V:Int}(hr:r<64)(hw:Words outs)(hX:Word (nth X k))(hlen:q+k+1<outs.length)
    (hv:val outs=wpow q*(val (X.take k)*2^r)) (ho:nth outs (q+k)<2^r) (hz:∀ j,q+k<j→nth outs j=0)
    (hV:V=bits BinOp.or IntKind.u64 (nth outs (q+k)) (IntKind.u64.wrap (nth X k*2^r))) :
    Word V∧Word (nth X k/2^(64-r))∧val ((outs.set (q+k) V).set (q+k+1) (nth X k/2^(64-r)))=wpow q*(val (X.take (k+1))*2^r)∧nth X k/2^(64-r)<2^r:=by
  obtain ⟨⟨c,hc0,hc⟩,s2,s3,s4⟩:=shl_word hX hr
  have w1:=lo64_word (nth X k*2^r)
  have o1:=hw.nth (q+k)
  rw [wrap_lo,or_disjoint o1.1 ho hc hc0 w1.2 (by omega)] at hV
  have hlt:nth outs (q+k)+lo64 (nth X k*2^r)<18446744073709551616:=by
    have p:=two_pow_pos r
    have e:(18446744073709551616:Int)=2^r*2^(64-r):=by
      rw [←Int.pow_add,show r+(64-r)=64 from by omega];decide
    have hb:=w1.2
    rw [hc,e] at hb
    have:c<2^(64-r):=Int.lt_of_mul_lt_mul_left hb (by omega)
    have:=imL (show c+1≤2^(64-r) by omega) (show 0≤(2:Int)^r by omega)
    rw [hc,e];rw [Int.mul_add] at this;omega
  have wd:Word (nth X k/2^(64-r)):=by
    refine ⟨s4,?_⟩
    have:=two_pow_le (j:=r) (k:=64) (by omega)
    have e:(2:Int)^64=18446744073709551616:=by decide
    omega
  refine ⟨by rw [hV];exact ⟨by have:=o1.1;have:=w1.1;omega,hlt⟩,wd,?_,s3⟩
  rw [val_set _ _ _ (by simp;omega),val_set _ _ _ (by omega),nth_set_ne _ (by omega),hz (q+k+1) (by omega),hv,val_take_more,hV,show q+k+1=q+(k+1) from rfl,wpow_add q (k+1),wpow_succ,wpow_add q k]
  generalize wpow q=A at *
  generalize wpow k=B at *
  generalize val (X.take k)=a at *
  have:A*B*(lo64 (nth X k*2^r)+18446744073709551616*(nth X k/2^(64-r)))=A*B*(nth X k*2^r):=by rw [s2]
  generalize nth X k/2^(64-r)=hi at *
  generalize lo64 (nth X k*2^r)=lo at *
  grind
theorem shl_step0{outs X:List Int}{q k:Nat}{V:Int}(hw:Words outs)(hX:Word (nth X k))(hlen:q+k+1<outs.length)
    (hv:val outs=wpow q*(val (X.take k)*2^0)) (ho:nth outs (q+k)<2^0)
    (hV:V=bits BinOp.or IntKind.u64 (nth outs (q+k)) (IntKind.u64.wrap (nth X k*2^0))) :
    Word V∧val (outs.set (q+k) V)=wpow q*(val (X.take (k+1))*2^0):=by
  have o1:=hw.nth (q+k)
  have h0:=o1.1
  have hz:nth outs (q+k)=0:=by simp at ho;omega
  have e:IntKind.u64.wrap (nth X k*2^0)=nth X k:=by
    rw [wrap_lo];unfold lo64;have:=hX.1;have:=hX.2;simp;omega
  rw [e,or_disjoint (r:=0) (c:=nth X k) h0 ho (by simp) hX.1 hX.2 (by omega),hz,Int.zero_add] at hV
  refine ⟨by rw [hV];exact hX,?_⟩
  rw [val_set _ _ _ (by omega),hv,hz,hV,val_take_more,wpow_add]
  simp;grind
set_option maxHeartbeats 1600000 in
theorem lshl_calls{B:Nat}{w:World}{v:Value}{xs:List Int}(n:Int)(q r:Nat)(h:NatAt B w v xs)(hn0:0≤n)(hn:n≤1099511627776)(hq:n/64=(q:Int))(hr:n % 64=(r:Int))(hl:(ws (val xs)).length≤8796093022208) :
    Calls Tryz.prog 115 #[v,.int .i64 n] w (RNat w (ws (val xs*2^n.toNat))):=by
  have hvx:=val_nonneg h.words
  go_enter Tryz.func115,Tryz.ntmps115
  go_wp2_with fail
  refine (trim_calls h).mono ?_
  rintro e w' ⟨v1,rfl,hn1,rfl⟩
  clear h
  by_cases hx:ws (val xs) = []
  · obtain ⟨A,c,rfl,hc⟩:=hn1.open0 hx
    have hz:Hid (val xs=0):=(ws_eq_nil hvx).1 hx
    clear hx hn1 hl
    go_wp2
    go_ret
    refine ⟨_,rfl,?_,Below.refl _ _⟩
    rw [hz.out,Int.zero_mul,ws_zero];exact NatAt.nil _ _
  · have hp:0<(ws (val xs)).length:=List.length_pos_iff.2 hx
    obtain ⟨g,o,m,c,rfl,hm,hc,hcap,hlen0,hB,hg,hcell⟩:=hn1.open1 hp
    have wx:Hid (Words (ws (val xs))):=hn1.words
    have vx:Hid (val (ws (val xs))=val xs):=val_ws hvx
    have hm':m≤8796093022208:=by have:=hm.out;omega
    have hq':(q:Int)≤17179869184:=by omega
    have hr':(r:Int)<64:=by omega
    clear hn1 hvx hl hx hp
    generalize val xs=nx at *
    generalize ws nx=X at *
    have hmk:=make_run 22 Tryz.underlying22 (q+(m+1)+1) (by omega)
    rw [show ((q+(m+1)+1:Nat):Int)=(q:Int)+((m:Int)+1)+1 from by omega] at hmk
    go_wp2
    simp only [hq,hr]
    go_loopw [25] (fun i wr=>∃ (k:Nat) (outs:List Int),k≤m+1∧i = .int .i64 k∧w.heap.size<wr.heap.size∧RowAt wr w.heap.size outs∧Below w.heap.size w wr∧Hid (outs.length=q+(m+1)+1∧Words outs∧val outs=wpow q*(val (X.take k)*2^r)∧nth outs (q+k)<2^r∧∀ j,q+k<j→nth outs j=0)) (fun i _=>m+1-(intOf i).toNat)
    case atStart =>
      refine ⟨0,List.replicate (q+(m+1)+1) 0,by omega,rfl,by simp,RowAt.made _ _,below_also _ _,by simp,Words.zeros _,?_,?_,fun j _=>nth_zeros _ _⟩
      · rw [val_zeros];simp [val]
      · rw [nth_zeros];exact two_pow_pos r
    case round =>
      obtain ⟨k,outs,hk,rfl,hG,hrow,hbel,hrr⟩:=hrel
      by_cases hlt:k<m+1
      · have hxk:wr.cell? ⟨g,o+k,none⟩=some (.int .u64 (nth X k)):=((bcell hbel).1 _ _ hg).trans (hcell k hlt)
        have hlen:q+k<outs.length:=by rw [hrr.out.1];omega
        have hout:wr.cell? ⟨w.heap.size,q+k,none⟩=some (.int .u64 (nth outs (q+k))):=hrow.cell hlen
        have hfr:wr.frozen? ⟨w.heap.size,q+k,none⟩=false:=hrow.frozen _
        obtain ⟨V,hV⟩:∃ V,V=bits BinOp.or IntKind.u64 (nth outs (q+k)) (IntKind.u64.wrap (nth X k*2^r)):=⟨_,rfl⟩
        have hset:=hrow.set (q+k) V
        obtain ⟨r1,r2,r3,r4,r5⟩:=hrr.out
        have hbel2:Hid (Below w.heap.size w wr):=hbel
        by_cases hr0:0<r
        · have hr1:(0:Int)<(r:Int):=by omega
          have hlen2:q+k+1<outs.length:=by rw [r1];omega
          have hfr2:(wr.setCell ⟨w.heap.size,q+k,none⟩ (.int .u64 V)).drew.frozen? ⟨w.heap.size,q+k+1,none⟩=false:=hset.frozen _
          have hout2:(wr.setCell ⟨w.heap.size,q+k,none⟩ (.int .u64 V)).drew.cell? ⟨w.heap.size,q+k+1,none⟩=some (.int .u64 (nth (outs.set (q+k) V) (q+k+1))):=hset.cell (by simp;omega)
          obtain ⟨s1,s2,s3,s4⟩:=shl_step (by omega) r2 (wx.out.nth k) hlen2 r3 r4 r5 hV
          have hnew:Hid (RowAt ((wr.setCell ⟨w.heap.size,q+k,none⟩ (.int .u64 V)).setCell ⟨w.heap.size,q+k+1,none⟩ (.int .u64 (nth X k/2^(64-r)))) w.heap.size ((outs.set (q+k) V).set (q+k+1) (nth X k/2^(64-r)))):=hset.set _ _
          have hrel':Hid (((outs.set (q+k) V).set (q+k+1) (nth X k/2^(64-r))).length=q+(m+1)+1∧Words ((outs.set (q+k) V).set (q+k+1) (nth X k/2^(64-r)))∧val ((outs.set (q+k) V).set (q+k+1) (nth X k/2^(64-r)))=wpow q*(val (X.take (k+1))*2^r)∧nth ((outs.set (q+k) V).set (q+k+1) (nth X k/2^(64-r))) (q+(k+1))<2^r∧∀ j,q+(k+1)<j→nth ((outs.set (q+k) V).set (q+k+1) (nth X k/2^(64-r))) j=0):=by
            refine ⟨by simp [r1],(r2.set _ s1).set _ s2,s3,?_,fun j hj=>?_⟩
            · rw [show q+(k+1)=q+k+1 from rfl,nth_set_eq _ (by simp;omega)];exact s4
            · rw [nth_set_ne _ (by omega),nth_set_ne _ (by omega),r5 _ (by omega)]
          have HV:=Lib.hid hV
          clear hset hrr r1 r2 r3 r4 r5 s1 s2 s3 s4 hrow hbel hV hlen hlen2
          go_wp2
          go_region
          rw [←HV.out]
          go_wp2
          exact ⟨⟨k+1,_,by omega,by go_num,by simpa using hG,hnew.out,((hbel2.out.setCell (Nat.le_refl _) _).setCell (Nat.le_refl _) _).drew,hrel'⟩,by simp [intOf];omega⟩
        · obtain rfl:r=0:=by omega
          have hV':Hid (V=bits BinOp.or IntKind.u64 (nth outs (q+k)) (IntKind.u64.wrap (nth X k))):=by
            show _=_
            rw [hV];simp
          obtain ⟨s1,s3⟩:=shl_step0 r2 (wx.out.nth k) (by rw [r1];omega) r3 r4 hV
          have hnew:Hid (RowAt (wr.setCell ⟨w.heap.size,q+k,none⟩ (.int .u64 V)) w.heap.size (outs.set (q+k) V)):=hset
          have hrel':Hid ((outs.set (q+k) V).length=q+(m+1)+1∧Words (outs.set (q+k) V)∧val (outs.set (q+k) V)=wpow q*(val (X.take (k+1))*2^0)∧nth (outs.set (q+k) V) (q+(k+1))<2^0∧∀ j,q+(k+1)<j→nth (outs.set (q+k) V) j=0):=by
            refine ⟨by simp [r1],r2.set _ s1,s3,?_,fun j hj=>?_⟩
            · rw [nth_set_ne _ (by omega),r5 _ (by omega)];simp
            · rw [nth_set_ne _ (by omega),r5 _ (by omega)]
          clear hset hrr r1 r2 r3 r4 r5 s1 s3 hrow hbel hV hlen
          go_wp2
          go_region
          rw [←hV'.out]
          go_wp2
          exact ⟨⟨k+1,_,by omega,by go_num,by simpa using hG,hnew.out,(hbel2.out.setCell (Nat.le_refl _) _).drew,hrel'⟩,by simp [intOf];omega⟩
      · obtain rfl:m+1=k:=by omega
        obtain ⟨r1,r2,r3,r4,r5⟩:=hrr.out
        have hn:Hid (NatAt w.heap.size wr (.slice (some ⟨w.heap.size,0,none⟩) (q+(m+1)+1) (q+(m+1)+1)) outs):=hrow.nat (Nat.le_refl _) r2 _ r1 (by rw [r1];omega)
        have hval:Hid (val outs=nx*2^n.toNat):=by
          show _=_
          rw [r3,val_take_all _ _ (by rw [hm.out];omega),vx.out,wpow_eq,show n.toNat=64*q+r from by omega,Int.pow_add]
          grind
        have hbel2:Hid (Below w.heap.size w wr):=hbel
        clear hrr r1 r2 r3 r4 r5 hrow hbel
        go_wp2_with fail
        refine (trim_calls hn.out).mono ?_
        rintro e w' ⟨v',rfl,hn',rfl⟩
        go_wp2
        go_ret
        refine ⟨_,rfl,?_,hbel2.out⟩
        rw [←hval.out];exact hn'
def lostB(a:Int)(k:Nat):Bool:=decide (a % 2^k≠0)
theorem lostB_zero(k:Nat):lostB 0 k=false:=by unfold lostB;simp
theorem lostB_tz{a:Int}(h:0<a)(k:Nat):lostB a k=decide ((tz a:Int)<(k:Int)):=by
  unfold lostB
  obtain ⟨m,hm,e⟩:=tz_spec h
  rw [Bool.eq_iff_iff]
  simp only [decide_eq_true_eq]
  constructor
  · intro h1
    by_cases hk:tz a<k
    · omega
    · exfalso;apply h1
      rw [e,show tz a=k+(tz a-k) from by omega,Int.pow_add,Int.mul_assoc]
      exact Int.mul_emod_right _ _
  · intro h1 h2
    obtain ⟨d,hd⟩:∃ d,k=tz a+(d+1):=⟨k-tz a-1,by omega⟩
    have hdv:(2:Int)^k∣a:=Int.dvd_of_emod_eq_zero h2
    obtain ⟨c,hc⟩:=hdv
    have p:=two_pow_pos (tz a)
    have e2:2^tz a*(2*m+1)=2^tz a*(2*(2^d*c)):=by
      rw [←e,hc,hd,Int.pow_add,Int.pow_succ];grind
    have:=Int.eq_of_mul_eq_mul_left (by omega) e2
    omega
theorem shr_word{y y':Int}{r:Nat}(hy:Word y)(_:Word y')(hr0:0<r)(hr:r<64) :
    ∃ V,V=bits BinOp.or IntKind.u64 (y/2^r) (IntKind.u64.wrap (y' * 2^(64-r)))∧Word V∧2^r*V+y % 2^r=y+18446744073709551616*(y' % 2^r):=by
  have p:=two_pow_pos r
  have p2:=two_pow_pos (64-r)
  have e:(18446744073709551616:Int)=2^(64-r)*2^r:=by
    rw [←Int.pow_add,show 64-r+r=64 from by omega];decide
  have h0:=hy.1;have h1:=hy.2
  have key:lo64 (y' * 2^(64-r))=2^(64-r)*(y' % 2^r):=by
    unfold lo64
    rw [e,Int.mul_comm y',Int.mul_emod_mul_of_pos _ _ p2]
  have d0:0≤y/2^r:=Int.ediv_nonneg h0 (by omega)
  have d1:y/2^r<2^(64-r):=by
    rw [e] at h1
    exact Int.ediv_lt_of_lt_mul p h1
  have m0:=Int.emod_nonneg y' (show (2:Int)^r≠0 by omega)
  have m1:=Int.emod_lt_of_pos y' p
  refine ⟨_,rfl,?_⟩
  have wl:=lo64_word (y' * 2^(64-r))
  rw [wrap_lo,or_disjoint d0 d1 key m0 wl.2 (by omega),key]
  have:=Int.mul_ediv_add_emod y (2^r)
  refine ⟨⟨?_,?_⟩,?_⟩
  · rw [key] at wl;have:=wl.1;omega
  · have:=imL (show y' % 2^r+1≤2^r by omega) (show 0≤(2:Int)^(64-r) by omega)
    rw [Int.mul_add] at this
    rw [e];omega
  · rw [e]
    generalize y/2^r=A at *
    generalize y % 2^r=M at *
    generalize y' % 2^r=M' at *
    generalize (2:Int)^(64-r)=Q at *
    grind
theorem shr_next{zs Y:List Int}{k r:Nat}{V:Int}(hl:zs.length=k)(hi:2^r*val zs+nth Y 0 % 2^r=val (Y.take k)+wpow k*(nth Y k % 2^r))
    (hV:2^r*V+nth Y k % 2^r=nth Y k+18446744073709551616*(nth Y (k+1) % 2^r)) :
    2^r*val (zs ++ [V])+nth Y 0 % 2^r=val (Y.take (k+1))+wpow (k+1)*(nth Y (k+1) % 2^r):=by
  rw [val_append,hl,val_take_more,wpow_succ]
  simp only [val,Int.mul_zero,Int.add_zero]
  have:wpow k*(2^r*V+nth Y k % 2^r)=wpow k*(nth Y k+18446744073709551616*(nth Y (k+1) % 2^r)):=by rw [hV]
  generalize nth Y 0 % 2^r=a at *
  generalize nth Y k % 2^r=b at *
  generalize nth Y (k+1) % 2^r=c at *
  grind
theorem shr_end{zs Y:List Int}{k r:Nat}(hl:Y.length=k)(hY:Words Y)(hr:r≤64)(hi:2^r*val zs+nth Y 0 % 2^r=val (Y.take k)+wpow k*(nth Y k % 2^r)):val zs=val Y/2^r:=by
  have p:=two_pow_pos r
  rw [nth_ge (show Y.length≤k by omega),val_take_all _ _ (by omega)] at hi
  simp only [Int.zero_emod,Int.mul_zero,Int.add_zero] at hi
  have hm:nth Y 0 % 2^r=val Y % 2^r:=by
    cases Y with
    | nil=>simp [nth,val]
    | cons y ys =>
      rw [nth_cons_zero,val_cons]
      have e:(18446744073709551616:Int)=2^r*2^(64-r):=by
        rw [←Int.pow_add,show r+(64-r)=64 from by omega];decide
      rw [e,Int.mul_assoc,Int.add_mul_emod_self_left]
  have h2:=Int.mul_ediv_add_emod (val Y) (2^r)
  rw [hm] at hi
  have:2^r*val zs=2^r*(val Y/2^r):=by omega
  exact Int.eq_of_mul_eq_mul_left (by omega) this
theorem shr_val{X:List Int}{q r:Nat}{n:Int}(hX:Words X)(hq:q≤X.length)(hn:n=64*q+r):val (X.drop q)/2^r=val X/2^n.toNat:=by
  have s:=val_split X q hq
  have a1:=val_lt (hX.take q)
  have a0:=val_nonneg (hX.take q)
  rw [List.length_take,Nat.min_eq_left hq] at a1
  have p:=wpow_pos q
  have e:val X/wpow q=val (X.drop q):=by
    rw [s,Int.add_mul_ediv_left _ _ (by omega),Int.ediv_eq_zero_of_lt a0 a1,Int.zero_add]
  rw [←e,Int.ediv_ediv_of_nonneg (by omega),wpow_eq,←Int.pow_add,show n.toNat=64*q+r from by omega]
theorem val_shr_zero{X:List Int}{q:Nat}{n:Int}(hX:Words X)(hq:X.length≤q)(hn:64*(q:Int)≤n):val X/2^n.toNat=0:=by
  have a1:=val_lt hX
  have a0:=val_nonneg hX
  have:=wpow_le hq
  rw [wpow_eq q] at this
  have:=two_pow_le (j:=64*q) (k:=n.toNat) (by omega)
  exact Int.ediv_eq_zero_of_lt a0 (by omega)
def RNatB(w:World)(xs:List Int)(b:Bool)(e:Ending)(w':World):Prop:=∃ v,e = .returned (.tuple #[v,.bool b])∧NatAt w.heap.size w' v xs∧Below w.heap.size w w'
set_option maxRecDepth 100000 in
set_option maxHeartbeats 1600000 in
theorem lshr_calls{B:Nat}{w:World}{v:Value}{xs:List Int}(n:Int)(q r:Nat)(hT:Tab w)(h:NatAt B w v xs)(hn0:0≤n)(hn:n≤9007199254740992)(hq:n/64=(q:Int))(hr:n % 64=(r:Int)) :
    Calls Tryz.prog 98 #[v,.int .i64 n] w (RNatB w (ws (val xs/2^n.toNat)) (lostB (val xs) n.toNat)):=by
  have hvx:=val_nonneg h.words
  have HT:Hid (Tab w):=hT
  clear hT
  go_enter Tryz.func98,Tryz.ntmps98
  go_wp2_with fail
  refine (trim_calls h).mono ?_
  rintro e w' ⟨v1,rfl,hn1,rfl⟩
  clear h
  by_cases hx:ws (val xs) = []
  · obtain ⟨A,c,rfl,hc⟩:=hn1.open0 hx
    have hz:Hid (val xs=0):=(ws_eq_nil hvx).1 hx
    clear hx hn1
    go_wp2
    go_ret2
    refine ⟨_,by rw [hz.out,lostB_zero];rfl,?_,Below.refl _ _⟩
    rw [hz.out,Int.zero_ediv,ws_zero];exact NatAt.nil _ _
  · have hp:0<(ws (val xs)).length:=List.length_pos_iff.2 hx
    have hlow:Hid (Calls Tryz.prog 97 #[v1] w fun e w'=>e = .returned (.int .i64 (tz (val xs)))∧w=w'):=by
      have:=low_calls HT.out hn1
      rwa [val_ws hvx] at this
    obtain ⟨g,o,m,c,rfl,hm,hc,hcap,hlen0,hB,hg,hcell⟩:=hn1.open1 hp
    have wx:Hid (Words (ws (val xs))):=hn1.words
    have vx:Hid (val (ws (val xs))=val xs):=val_ws hvx
    have hlost:Hid (lostB (val xs) n.toNat=decide ((tz (val xs):Int)<n)):=by
      show _=_
      rw [lostB_tz (ws_pos_of hp),Int.toNat_of_nonneg hn0]
    have hm':m+1≤17592186044415:=by omega
    have hr':(r:Int)<64:=by omega
    clear hn1 hx hp
    have ht0:0≤(tz (val xs):Int):=by omega
    generalize val xs=nx at *
    generalize tz nx=tn at *
    generalize ws nx=X at *
    go_wp2_with fail
    refine hlow.out.mono ?_
    rintro e w' ⟨rfl,rfl⟩
    clear hlow
    by_cases hql:q<m+1
    · have hq1:(q:Int)<(m:Int)+1:=by omega
      obtain ⟨M,hM⟩:∃ M,Hid (m+1=q+(M+1)):=⟨m-q,by show _=_;omega⟩
      have hlenY:Hid ((X.drop q).length=M+1):=by
        show _=_
        rw [List.length_drop,hm.out];have:=hM.out;omega
      have wy:Hid (Words (X.drop q)):=wx.out.drop q
      have hcY:∀ j,j<M+1→w.cell? ⟨g,o+q+j,none⟩=some (.int .u64 (nth (X.drop q) j)):=fun j hj=>by
        rw [nth_drop,Nat.add_assoc];exact hcell (q+j) (by have:=hM.out;omega)
      have hvY:Hid (val (X.drop q)/2^r=nx/2^n.toNat):=by
        show _=_
        rw [←vx.out];exact shr_val wx.out (by rw [hm.out];omega) (by omega)
      have hM':M+1≤17592186044415:=by have:=hM.out;omega
      clear HT hcell
      generalize X.drop q=Y at *
      have hmk:=make_run 22 Tryz.underlying22 (M+1) (by omega)
      rw [show ((M+1:Nat):Int)=(M:Int)+1 from by omega] at hmk
      go_wp2_with fail
      rw [show m+1-q=M+1 from by have:=hM.out;omega,show ((M+1:Nat):Int)=(M:Int)+1 from by omega]
      go_simp
      go_wp2
      simp only [hr]
      go_loopw [37] (fun i wr=>∃ (k:Nat) (zs:List Int),k≤M+1∧i = .int .i64 k∧w.heap.size<wr.heap.size∧RowAt wr w.heap.size (zs ++ List.replicate (M+1-k) 0)∧Below w.heap.size w wr∧Hid (zs.length=k∧Words zs∧2^r*val zs+nth Y 0 % 2^r=val (Y.take k)+wpow k*(nth Y k % 2^r))) (fun i _=>M+1-(intOf i).toNat)
      case atStart =>
        refine ⟨0,[],by omega,rfl,by simp,RowAt.made _ _,below_also _ _,rfl,Words.nil,?_⟩
        simp [val,wpow]
      case round =>
        obtain ⟨k,zs,hk,rfl,hG,hrow,hbel,hrr⟩:=hrel
        obtain ⟨r1,r2,r3⟩:=hrr.out
        by_cases hlt:k<M+1
        · have hyk:wr.cell? ⟨g,o+q+k,none⟩=some (.int .u64 (nth Y k)):=((bcell hbel).1 _ _ hg).trans (hcY k hlt)
          have hlen:(zs ++ List.replicate (M+1-k) 0).length=M+1:=by
            rw [List.length_append,List.length_replicate,r1];omega
          have hout:wr.cell? ⟨w.heap.size,k,none⟩=some (.int .u64 (nth (zs ++ List.replicate (M+1-k) 0) k)):=hrow.cell (by omega)
          have hfr:wr.frozen? ⟨w.heap.size,k,none⟩=false:=hrow.frozen _
          have hset:∀ x,RowAt (wr.setCell ⟨w.heap.size,k,none⟩ (.int .u64 x)) w.heap.size (zs ++ x :: List.replicate (M+1-(k+1)) 0):=fun x=>by
            have:=hrow.set k x
            rw [List.set_append_right _ _ (by omega),r1,Nat.sub_self,show M+1-k=(M+1-(k+1))+1 from by omega,List.replicate_succ,List.set_cons_zero] at this
            exact this
          have wyk:=wy.out.nth k
          have wyk1:=wy.out.nth (k+1)
          have hbel2:Hid (Below w.heap.size w wr):=hbel
          by_cases hr0:0<r
          · have hr1:(0:Int)<(r:Int):=by omega
            by_cases hk1:k+1<M+1
            · have hk2:(k:Int)+1<(M:Int)+1:=by omega
              have hset1:=hset (nth Y k/2^r)
              obtain ⟨V,hV,wV,eV⟩:=shr_word wyk wyk1 hr0 (by omega)
              have hyk1:(wr.setCell ⟨w.heap.size,k,none⟩ (.int .u64 (nth Y k/2^r))).drew.cell? ⟨g,o+q+(k+1),none⟩=some (.int .u64 (nth Y (k+1))):=((bcell (hbel.setCell (Nat.le_refl _) _)).1 _ _ hg).trans (hcY (k+1) hk1)
              have hout1:(wr.setCell ⟨w.heap.size,k,none⟩ (.int .u64 (nth Y k/2^r))).drew.cell? ⟨w.heap.size,k,none⟩=some (.int .u64 (nth Y k/2^r)):=by
                have:=hset1.cell (j:=k) (by simp;omega)
                rw [nth_append_right (by omega),r1,Nat.sub_self,nth_cons_zero] at this
                exact this
              have hfr1:(wr.setCell ⟨w.heap.size,k,none⟩ (.int .u64 (nth Y k/2^r))).drew.frozen? ⟨w.heap.size,k,none⟩=false:=hset1.frozen _
              have hnew:Hid (RowAt ((wr.setCell ⟨w.heap.size,k,none⟩ (.int .u64 (nth Y k/2^r))).setCell ⟨w.heap.size,k,none⟩ (.int .u64 V)) w.heap.size (zs ++ [V] ++ List.replicate (M+1-(k+1)) 0)):=by
                have:=hset1.set k V
                rw [List.set_append_right _ _ (by omega),r1,Nat.sub_self,List.set_cons_zero] at this
                rw [List.append_assoc];exact this
              have hrel':Hid ((zs ++ [V]).length=k+1∧Words (zs ++ [V])∧2^r*val (zs ++ [V])+nth Y 0 % 2^r=val (Y.take (k+1))+wpow (k+1)*(nth Y (k+1) % 2^r)):=⟨by simp [r1],r2.append (Words.nil.cons wV),shr_next r1 r3 eV⟩
              have HV:=Lib.hid hV
              clear hset hset1 hrr r1 r2 r3 hrow hbel hV hlen wyk wyk1 wV eV
              go_wp2
              go_region
              rw [←HV.out]
              go_wp2
              exact ⟨⟨k+1,_,by omega,by go_num,by simpa using hG,hnew.out,((hbel2.out.setCell (Nat.le_refl _) _).setCell (Nat.le_refl _) _).drew,hrel'⟩,by simp [intOf];omega⟩
            · have hk2:¬ ((k:Int)+1<(M:Int)+1):=by omega
              have wV:Word (nth Y k/2^r):=by
                have p:=two_pow_pos r
                have h0:=Int.ediv_nonneg wyk.1 (show 0≤(2:Int)^r by omega)
                have h1:=Int.ediv_le_self (b:=2^r) wyk.1
                have:=wyk.2
                exact ⟨h0,by omega⟩
              have eV:2^r*(nth Y k/2^r)+nth Y k % 2^r=nth Y k+18446744073709551616*(nth Y (k+1) % 2^r):=by
                rw [nth_ge (show Y.length≤k+1 by rw [hlenY.out];omega),Int.mul_ediv_add_emod];simp
              have hnew:Hid (RowAt (wr.setCell ⟨w.heap.size,k,none⟩ (.int .u64 (nth Y k/2^r))) w.heap.size (zs ++ [nth Y k/2^r] ++ List.replicate (M+1-(k+1)) 0)):=by
                rw [List.append_assoc];exact hset _
              have hrel':Hid ((zs ++ [nth Y k/2^r]).length=k+1∧Words (zs ++ [nth Y k/2^r])∧2^r*val (zs ++ [nth Y k/2^r])+nth Y 0 % 2^r=val (Y.take (k+1))+wpow (k+1)*(nth Y (k+1) % 2^r)):=⟨by simp [r1],r2.append (Words.nil.cons wV),shr_next r1 r3 eV⟩
              clear hset hrr r1 r2 r3 hrow hbel hlen wyk wyk1 wV eV
              go_wp2
              go_roundw
              case rel=>exact ⟨k+1,_,by omega,by go_num,by simpa using hG,hnew.out,hbel2.out.setCell (Nat.le_refl _) _,hrel'⟩
              case measure=>simp [intOf];omega
          · obtain rfl:r=0:=by omega
            have eV:2^0*nth Y k+nth Y k % 2^0=nth Y k+18446744073709551616*(nth Y (k+1) % 2^0):=by simp
            have hnew:Hid (RowAt (wr.setCell ⟨w.heap.size,k,none⟩ (.int .u64 (nth Y k))) w.heap.size (zs ++ [nth Y k] ++ List.replicate (M+1-(k+1)) 0)):=by
              rw [List.append_assoc];exact hset _
            have hrel':Hid ((zs ++ [nth Y k]).length=k+1∧Words (zs ++ [nth Y k])∧2^0*val (zs ++ [nth Y k])+nth Y 0 % 2^0=val (Y.take (k+1))+wpow (k+1)*(nth Y (k+1) % 2^0)):=⟨by simp [r1],r2.append (Words.nil.cons wyk),shr_next r1 r3 eV⟩
            clear hset hrr r1 r2 r3 hrow hbel hlen wyk wyk1 eV
            go_wp2
            go_roundw
            case rel=>exact ⟨k+1,_,by omega,by go_num,by simpa using hG,hnew.out,hbel2.out.setCell (Nat.le_refl _) _,hrel'⟩
            case measure=>simp [intOf];omega
        · obtain rfl:M+1=k:=by omega
          have hn1:Hid (NatAt w.heap.size wr (.slice (some ⟨w.heap.size,0,none⟩) (M+1) (M+1)) zs):=by
            rw [Nat.sub_self,List.replicate_zero,List.append_nil] at hrow
            exact hrow.nat (Nat.le_refl _) r2 _ r1 (by omega)
          have hval:Hid (val zs=nx/2^n.toNat):=by
            show _=_
            rw [←hvY.out];exact shr_end hlenY.out wy.out (by omega) r3
          have hbel2:Hid (Below w.heap.size w wr):=hbel
          clear hrr r1 r2 r3 hrow hbel
          go_wp2_with fail
          refine (trim_calls hn1.out).mono ?_
          rintro e w' ⟨v',rfl,hn',rfl⟩
          go_wp2
          go_ret2
          refine ⟨_,by rw [hlost.out];rfl,?_,hbel2.out⟩
          rw [←hval.out];exact hn'
    · have hv0:Hid (nx/2^n.toNat=0):=by
        show _=_
        rw [←vx.out];exact val_shr_zero (q:=q) wx.out (by rw [hm.out];omega) (by omega)
      go_wp2
      go_ret2
      refine ⟨_,by rw [hlost.out];rfl,?_,Below.refl _ _⟩
      rw [hv0.out,ws_zero];exact NatAt.nil _ _
structure Dig (p z t U:Int):Prop where
  p1:2147483648≤p
  p2:p<4294967296
  z1:0≤z
  z2:z<4294967296
  t1:0≤t
  t2:t<4294967296
  u1:0≤U
  u2:U<p*4294967296+z
def digQ(p z t U:Int):Int:=(U*4294967296+t)/(p*4294967296+z)
theorem digQ_le{p z t U q:Int}(d:Dig p z t U):q*(p*4294967296+z)≤U*4294967296+t↔q≤digQ p z t U:=by
  have:=d.p1;have:=d.z1
  exact (Int.le_ediv_iff_mul_le (by omega)).symm
theorem digQ_nonneg{p z t U:Int}(d:Dig p z t U):0≤digQ p z t U:=by
  have:=d.p1;have:=d.z1;have:=d.t1;have:=d.u1
  exact Int.ediv_nonneg (by omega) (by omega)
theorem digQ_lt{p z t U:Int}(d:Dig p z t U):digQ p z t U<4294967296:=by
  have:=d.p1;have:=d.z1;have:=d.t2;have:=d.u2
  refine Int.ediv_lt_of_lt_mul (by omega) ?_
  omega
theorem dig_stop{p z t U q r:Int}(d:Dig p z t U)(e:q*p+r=U)(hQ:digQ p z t U≤q)(h:q*z≤4294967296*r+t):q=digQ p z t U:=by
  have:q≤digQ p z t U:=(digQ_le d).1 (by rw [←e];grind)
  omega
theorem dig_down{p z t U q r:Int}(d:Dig p z t U)(e:q*p+r=U)(h:4294967296*r+t<q*z):digQ p z t U≤q-1:=by
  by_cases hq:digQ p z t U≤q-1
  · exact hq
  · have:=(digQ_le (q:=q) d).2 (by omega)
    rw [←e] at this;grind
theorem dig_break{p z t U q r:Int}(d:Dig p z t U)(e:q*p+r=U)(hQ:digQ p z t U≤q-1)(h:4294967296≤r+p):q-1=digQ p z t U:=by
  have h1:=d.p1;have h2:=d.z1;have h3:=d.z2;have h4:=d.u2;have h5:=d.t1
  have hq:(q-1)*p<4294967296*p:=by
    have:(q-1)*p=U-(r+p):=by rw [←e];grind
    omega
  have hlt:q-1<4294967296:=Int.lt_of_mul_lt_mul_right hq (by omega)
  refine dig_stop (r:=r+p) d (by rw [←e];grind) hQ ?_
  have:(q-1)*z≤4294967296*z:=imR (by omega) h2
  omega
theorem dig_rest{p z t U:Int}(d:Dig p z t U):0≤U*4294967296+t-digQ p z t U*(p*4294967296+z)∧U*4294967296+t-digQ p z t U*(p*4294967296+z)<p*4294967296+z:=by
  have h1:=d.p1;have h2:=d.z1
  have:=Int.mul_ediv_add_emod (U*4294967296+t) (p*4294967296+z)
  have m0:=Int.emod_nonneg (U*4294967296+t) (show p*4294967296+z≠0 by omega)
  have m1:=Int.emod_lt_of_pos (U*4294967296+t) (show 0<p*4294967296+z by omega)
  unfold digQ
  generalize (U*4294967296+t)/(p*4294967296+z)=Q at *
  generalize (U*4294967296+t) % (p*4294967296+z)=M at *
  generalize p*4294967296+z=Y at *
  rw [Int.mul_comm] at this
  omega
theorem wrap_small{x:Int}(h0:0≤x)(h1:x<18446744073709551616):IntKind.u64.wrap x=x:=by
  rw [IntKind.wrap_u64];omega
theorem dig_start{p z t U:Int}(d:Dig p z t U):0≤U/p∧digQ p z t U≤U/p∧U/p≤8589934592∧IntKind.u64.wrap (U/p*p)=U/p*p∧IntKind.u64.wrap (U-U/p*p)=U-U/p*p∧0≤U-U/p*p∧U-U/p*p<4294967296:=by
  have h1:=d.p1;have h2:=d.p2;have h3:=d.z1;have h4:=d.z2;have h5:=d.t1;have h6:=d.t2;have h7:=d.u1;have h8:=d.u2
  have e:=Int.mul_ediv_add_emod U p
  have m0:=Int.emod_nonneg U (show p≠0 by omega)
  have m1:=Int.emod_lt_of_pos U (show 0<p by omega)
  have q0:=Int.ediv_nonneg h7 (show 0≤p by omega)
  have qp:=Int.mul_nonneg q0 (show 0≤p by omega)
  have hU:U<18446744073709551616:=by omega
  rw [Int.mul_comm] at e
  have q1:U/p≤8589934592:=by
    by_cases hq:U/p≤8589934592
    · exact hq
    · have:=Int.mul_le_mul (show 8589934593≤U/p by omega) h1 (by omega) (by omega)
      omega
  refine ⟨q0,?_,q1,wrap_small (by omega) (by omega),wrap_small (by omega) (by omega),by omega,by omega⟩
  have key:U*4294967296+t<(U/p+1)*(p*4294967296+z):=by
    have e2:(U/p+1)*(p*4294967296+z)=(U/p*p)*4294967296+p*4294967296+(U/p+1)*z:=by grind
    have:0≤(U/p+1)*z:=Int.mul_nonneg (by omega) h3
    omega
  have:=Int.ediv_lt_of_lt_mul (show 0<p*4294967296+z by omega) key
  unfold digQ;omega
theorem dig_names{p z t U:Int}(d:Dig p z t U):∃ q m r:Int,IntKind.u64.wrap (U.tdiv p)=q∧IntKind.u64.wrap (q*p)=m∧IntKind.u64.wrap (U-m)=r ∧
    Hid (0≤q∧digQ p z t U≤q∧q≤8589934592∧True∧True∧0≤r∧r<4294967296)∧Hid (q*p+r=U):=by
  obtain ⟨a1,a2,a3,a4,a5,a6,a7⟩:=dig_start d
  have h1:=d.p1;have h7:=d.u1
  refine ⟨U/p,U/p*p,U-U/p*p,?_,a4,a5,⟨a1,a2,a3,trivial,trivial,a6,a7⟩,by show _=_;omega⟩
  rw [Int.tdiv_eq_ediv_of_nonneg h7];exact wrap_small a1 (by omega)
set_option maxRecDepth 100000 in
set_option maxHeartbeats 3200000 in
theorem div64_walk(hi lo y:Int)(s:Nat)(Y U T p z t1 t0 R1 R2 F1 Q1 Q0:Int)(w:World)(h0:0<hi)(h1:hi<y)(_:0≤lo)(hs:s<64)
    (hlead:Hid (∀ w,Calls Tryz.prog 135 #[.int .u64 y] w fun e w'=>e = .returned (.int .i64 (s:Int))∧w=w'))
    (hY:IntKind.u64.wrap (y*2^s)=Y) (hT:IntKind.u64.wrap (lo*2^s)=T) (_:0≤Y) (_:0≤T)
    (hp:Y/4294967296=p) (hz:bits BinOp.and IntKind.u64 Y 4294967295=z) (hU:bits BinOp.or IntKind.u64 (IntKind.u64.wrap (hi*2^s)) (lo/2^(64-s))=U)
    (ht1:T/4294967296=t1) (ht0:bits BinOp.and IntKind.u64 T 4294967295=t0) (pp:0<p) (_:0≤R1) (_:0≤U)
    (d1:Hid (Dig p z t1 U)) (d2:Hid (Dig p z t0 R1)) (k1:Hid (digQ p z t1 U=Q1)) (k2:Hid (digQ p z t0 R1=Q0)) (_:0≤R2)
    (hR1:IntKind.u64.wrap (IntKind.u64.wrap (IntKind.u64.wrap (U*4294967296)+t1)-IntKind.u64.wrap (Q1*Y))=R1)
    (hR2:IntKind.u64.wrap (IntKind.u64.wrap (IntKind.u64.wrap (R1*4294967296)+t0)-IntKind.u64.wrap (Q0*Y))=R2)
    (hF1:IntKind.u64.wrap (IntKind.u64.wrap (Q1*4294967296)+Q0)=F1) :
    Calls Tryz.prog 133 #[.int .u64 hi,.int .u64 lo,.int .u64 y] w fun e w'=>e = .returned (.tuple #[.int .u64 F1,.int .u64 (R2/2^s)])∧w=w':=by
  obtain ⟨qa,ma,ra,n1,n2,n3,sa1,sa2⟩:=dig_names d1.out
  obtain ⟨qb,mb,rb,n4,n5,n6,sb1,sb2⟩:=dig_names d2.out
  rw [k1.out] at sa1
  rw [k2.out] at sb1
  go_enter Tryz.func133,Tryz.ntmps133
  go_wp2_with fail
  refine (hlead.out _).mono ?_
  rintro e w' ⟨rfl,rfl⟩
  go_upto_block 0 with fail
  go_cut [15,16] (fun q r wx=>q = .int .u64 Q1∧(∃ r',r = .int .u64 r')∧w=wx)
  case first =>
    go_wp2_with fail
    go_loop [15,16] (fun q r=>∃ a b:Int,q = .int .u64 a∧r = .int .u64 b∧0≤a∧a≤8589934592∧0≤b∧b<4294967296∧Hid (a*p+b=U∧Q1≤a)) (fun q _=>(intOf q).toNat)
    case atStart=>exact ⟨_,_,rfl,rfl,sa1.out.1,sa1.out.2.2.1,sa1.out.2.2.2.2.2.1,sa1.out.2.2.2.2.2.2,sa2.out,sa1.out.2.1⟩
    case round =>
      obtain ⟨a,b,rfl,rfl,ha0,ha1,hb0,hb1,hr⟩:=hrel
      have hpp1:p<4294967296:=d1.out.p2
      have hz1:0≤z:=d1.out.z1
      have ht1':0≤t1:=d1.out.t1
      have ht2':t1<4294967296:=d1.out.t2
      by_cases hbig:4294967296≤a
      · have hdn:Hid (Q1≤a-1):=by
          show _≤_
          have:=digQ_lt d1.out;have:=k1.out;omega
        by_cases hbr:4294967296≤b+p
        · have hst:Hid (a-1=Q1):=by
            show _=_
            rw [←k1.out];exact dig_break d1.out hr.out.1 (by rw [k1.out];exact hdn.out) hbr
          go_wp2
          go_meet
          exact ⟨by rw [hst.out],⟨_,rfl⟩,rfl⟩
        · have hr':Hid ((a-1)*p+(b+p)=U∧Q1≤a-1):=⟨by rw [←hr.out.1];grind,hdn.out⟩
          go_wp2
          go_round
          case rel=>exact ⟨_,_,rfl,rfl,by omega,by omega,by omega,by omega,hr'⟩
          case measure=>simp [intOf];omega
      · have m0:0≤a*z:=Int.mul_nonneg ha0 hz1
        have m1:a*z<18446744073709551616:=by
          have:=Int.mul_le_mul (show a≤4294967295 by omega) (show z≤4294967295 by have:=d1.out.z2;omega) hz1 (by omega)
          omega
        obtain ⟨m,hm⟩:∃ m,m=a*z:=⟨_,rfl⟩
        have hmul:IntKind.u64.wrap (a*z)=m:=by rw [hm];exact wrap_small m0 m1
        have hmul2:IntKind.u64.wrap (4294967296*b)=4294967296*b:=wrap_small (by omega) (by omega)
        have hadd2:IntKind.u64.wrap (4294967296*b+t1)=4294967296*b+t1:=wrap_small (by omega) (by omega)
        have HM:=Lib.hid hm
        clear m0 m1
        by_cases hgt:4294967296*b+t1<m
        · have hdn:Hid (Q1≤a-1):=by
            show _≤_
            rw [←k1.out];exact dig_down d1.out hr.out.1 (by rw [←HM.out];exact hgt)
          have ha2:1≤a:=by have:=hdn.out;have:=digQ_nonneg d1.out;have:=k1.out;omega
          clear hm
          by_cases hbr:4294967296≤b+p
          · have hst:Hid (a-1=Q1):=by
              show _=_
              rw [←k1.out];exact dig_break d1.out hr.out.1 (by rw [k1.out];exact hdn.out) hbr
            go_wp2
            go_meet
            exact ⟨by rw [hst.out],⟨_,rfl⟩,rfl⟩
          · have hr':Hid ((a-1)*p+(b+p)=U∧Q1≤a-1):=⟨by rw [←hr.out.1];grind,hdn.out⟩
            go_wp2
            go_round
            case rel=>exact ⟨_,_,rfl,rfl,by omega,by omega,by omega,by omega,hr'⟩
            case measure=>simp [intOf];omega
        · have hst:Hid (a=Q1):=by
            show _=_
            rw [←k1.out];exact dig_stop d1.out hr.out.1 (by rw [k1.out];exact hr.out.2) (by rw [←HM.out];omega)
          clear hm
          go_wp2
          go_meet
          exact ⟨by rw [hst.out],⟨_,rfl⟩,rfl⟩
  case rest =>
    obtain ⟨rfl,⟨r',rfl⟩,rfl⟩:=hcut
    go_upto_block 2 with fail
    go_cut [18,16] (fun q r wx=>q = .int .u64 Q0∧(∃ r',r = .int .u64 r')∧w=wx)
    case first =>
      go_wp2_with fail
      go_loop [18,16] (fun q r=>∃ a b:Int,q = .int .u64 a∧r = .int .u64 b∧0≤a∧a≤8589934592∧0≤b∧b<4294967296∧Hid (a*p+b=R1∧Q0≤a)) (fun q _=>(intOf q).toNat)
      case atStart=>exact ⟨_,_,rfl,rfl,sb1.out.1,sb1.out.2.2.1,sb1.out.2.2.2.2.2.1,sb1.out.2.2.2.2.2.2,sb2.out,sb1.out.2.1⟩
      case round =>
        obtain ⟨a,b,rfl,rfl,ha0,ha1,hb0,hb1,hr⟩:=hrel
        have hpp1:p<4294967296:=d2.out.p2
        have hz1:0≤z:=d2.out.z1
        have ht1':0≤t0:=d2.out.t1
        have ht2':t0<4294967296:=d2.out.t2
        by_cases hbig:4294967296≤a
        · have hdn:Hid (Q0≤a-1):=by
            show _≤_
            have:=digQ_lt d2.out;have:=k2.out;omega
          by_cases hbr:4294967296≤b+p
          · have hst:Hid (a-1=Q0):=by
              show _=_
              rw [←k2.out];exact dig_break d2.out hr.out.1 (by rw [k2.out];exact hdn.out) hbr
            go_wp2
            go_meet
            exact ⟨by rw [hst.out],⟨_,rfl⟩,rfl⟩
          · have hr':Hid ((a-1)*p+(b+p)=R1∧Q0≤a-1):=⟨by rw [←hr.out.1];grind,hdn.out⟩
            go_wp2
            go_round
            case rel=>exact ⟨_,_,rfl,rfl,by omega,by omega,by omega,by omega,hr'⟩
            case measure=>simp [intOf];omega
        · have m0:0≤a*z:=Int.mul_nonneg ha0 hz1
          have m1:a*z<18446744073709551616:=by
            have:=Int.mul_le_mul (show a≤4294967295 by omega) (show z≤4294967295 by have:=d2.out.z2;omega) hz1 (by omega)
            omega
          obtain ⟨m,hm⟩:∃ m,m=a*z:=⟨_,rfl⟩
          have hmul:IntKind.u64.wrap (a*z)=m:=by rw [hm];exact wrap_small m0 m1
          have hmul2:IntKind.u64.wrap (4294967296*b)=4294967296*b:=wrap_small (by omega) (by omega)
          have hadd2:IntKind.u64.wrap (4294967296*b+t0)=4294967296*b+t0:=wrap_small (by omega) (by omega)
          have HM:=Lib.hid hm
          clear m0 m1
          by_cases hgt:4294967296*b+t0<m
          · have hdn:Hid (Q0≤a-1):=by
              show _≤_
              rw [←k2.out];exact dig_down d2.out hr.out.1 (by rw [←HM.out];exact hgt)
            have ha2:1≤a:=by have:=hdn.out;have:=digQ_nonneg d2.out;have:=k2.out;omega
            clear hm
            by_cases hbr:4294967296≤b+p
            · have hst:Hid (a-1=Q0):=by
                show _=_
                rw [←k2.out];exact dig_break d2.out hr.out.1 (by rw [k2.out];exact hdn.out) hbr
              go_wp2
              go_meet
              exact ⟨by rw [hst.out],⟨_,rfl⟩,rfl⟩
            · have hr':Hid ((a-1)*p+(b+p)=R1∧Q0≤a-1):=⟨by rw [←hr.out.1];grind,hdn.out⟩
              go_wp2
              go_round
              case rel=>exact ⟨_,_,rfl,rfl,by omega,by omega,by omega,by omega,hr'⟩
              case measure=>simp [intOf];omega
          · have hst:Hid (a=Q0):=by
              show _=_
              rw [←k2.out];exact dig_stop d2.out hr.out.1 (by rw [k2.out];exact hr.out.2) (by rw [←HM.out];omega)
            clear hm
            go_wp2
            go_meet
            exact ⟨by rw [hst.out],⟨_,rfl⟩,rfl⟩
    case rest =>
      obtain ⟨rfl,⟨r',rfl⟩,rfl⟩:=hcut
      go_wp2
      go_ret2
      exact ⟨rfl,rfl⟩
theorem and_half{a:Int}(h0:0≤a)(h1:a<18446744073709551616):bits BinOp.and IntKind.u64 a 4294967295=a % 4294967296:=by
  obtain ⟨n,rfl⟩:=Int.eq_ofNat_of_zero_le h0
  have:=bits_and_u64_nat n 4294967295 (by omega) (by omega)
  rw [show ((4294967295:Nat):Int)=4294967295 from rfl] at this
  rw [this,show n &&& 4294967295=n % 4294967296 from Nat.and_two_pow_sub_one_eq_mod n 32]
  omega
theorem two_digs{p z t1 t0 U R1:Int}(_:Dig p z t1 U)(hR:R1=U*4294967296+t1-digQ p z t1 U*(p*4294967296+z))(d2:Dig p z t0 R1) :
    digQ p z t1 U*4294967296+digQ p z t0 R1=(U*18446744073709551616+t1*4294967296+t0)/(p*4294967296+z) ∧
    R1*4294967296+t0-digQ p z t0 R1*(p*4294967296+z)=(U*18446744073709551616+t1*4294967296+t0) % (p*4294967296+z):=by
  obtain ⟨r1,r2⟩:=dig_rest d2
  have e:U*18446744073709551616+t1*4294967296+t0=(p*4294967296+z)*(digQ p z t1 U*4294967296+digQ p z t0 R1)+(R1*4294967296+t0-digQ p z t0 R1*(p*4294967296+z)):=by
    generalize digQ p z t1 U=A at *
    generalize digQ p z t0 R1=B at *
    grind
  rw [e]
  generalize R1*4294967296+t0-digQ p z t0 R1*(p*4294967296+z)=R at *
  generalize digQ p z t1 U*4294967296+digQ p z t0 R1=Q at *
  generalize p*4294967296+z=Y at *
  refine ⟨?_,?_⟩
  · rw [Int.mul_add_ediv_left _ _ (by omega),Int.ediv_eq_zero_of_lt r1 r2,Int.add_zero]
  · rw [Int.mul_add_emod_self_left,Int.emod_eq_of_lt r1 r2]
theorem wrap_of_mod{x r:Int}(k:Int)(h:x=r+18446744073709551616*k)(h0:0≤r)(h1:r<18446744073709551616):IntKind.u64.wrap x=r:=by
  rw [IntKind.wrap_u64];omega
theorem wrap_mod3(a t b:Int):∃ k,IntKind.u64.wrap (IntKind.u64.wrap a+t)-IntKind.u64.wrap b=a+t-b+18446744073709551616*k:=by
  simp only [IntKind.wrap_u64]
  exact ⟨-((a % 18446744073709551616+t)/18446744073709551616)-a/18446744073709551616+b/18446744073709551616,by omega⟩
theorem div64_glue{hi lo y:Int}(wh:Word hi)(wl:Word lo)(wy:Word y)(h0:0<hi)(h1:hi<y) :
    ∃ (s:Nat) (Y U T p z t1 t0 R1 R2 F1 Q1 Q0:Int),s<64∧(blen y:Int)+s=64 ∧
    IntKind.u64.wrap (y*2^s)=Y∧IntKind.u64.wrap (lo*2^s)=T∧0≤Y∧0≤T ∧
    Y/4294967296=p∧bits BinOp.and IntKind.u64 Y 4294967295=z∧bits BinOp.or IntKind.u64 (IntKind.u64.wrap (hi*2^s)) (lo/2^(64-s))=U ∧
    T/4294967296=t1∧bits BinOp.and IntKind.u64 T 4294967295=t0∧0<p∧0≤R1∧0≤U∧Dig p z t1 U∧Dig p z t0 R1∧digQ p z t1 U=Q1∧digQ p z t0 R1=Q0∧0≤R2 ∧
    IntKind.u64.wrap (IntKind.u64.wrap (IntKind.u64.wrap (U*4294967296)+t1)-IntKind.u64.wrap (Q1*Y))=R1 ∧
    IntKind.u64.wrap (IntKind.u64.wrap (IntKind.u64.wrap (R1*4294967296)+t0)-IntKind.u64.wrap (Q0*Y))=R2 ∧
    IntKind.u64.wrap (IntKind.u64.wrap (Q1*4294967296)+Q0)=F1 ∧
    F1=(hi*18446744073709551616+lo)/y∧R2/2^s=(hi*18446744073709551616+lo) % y:=by
  have hy0:0<y:=by omega
  have b1:=blen_pos hy0
  have b2:=blen_le (n:=y) (k:=64) (by have:=wy.2;have e:(2:Int)^64=18446744073709551616:=by decide
                                      omega)
  obtain ⟨s,hs⟩:∃ s,blen y+s=64:=⟨64-blen y,by omega⟩
  have ps:=two_pow_pos s
  have ps2:=two_pow_pos (64-s)
  have e64:(18446744073709551616:Int)=2^s*2^(64-s):=by
    rw [←Int.pow_add,show s+(64-s)=64 from by omega];decide
  have y1:=blen_ge hy0
  have y2:=blen_lt y
  have Yl:9223372036854775808≤y*2^s:=by
    have e:(9223372036854775808:Int)=2^(blen y-1)*2^s:=by
      rw [←Int.pow_add,show blen y-1+s=63 from by omega];decide
    rw [e];exact imR y1 (by omega)
  have Yu:y*2^s<18446744073709551616:=by
    have e:(18446744073709551616:Int)=2^blen y*2^s:=by
      rw [←Int.pow_add,hs];decide
    rw [e];exact Int.mul_lt_mul_of_pos_right y2 ps
  have hh:hi<2^(64-s):=by rw [show 64-s=blen y from by omega];omega
  have hUl:hi*2^s<18446744073709551616:=by
    rw [e64,Int.mul_comm (2^s)];exact Int.mul_lt_mul_of_pos_right hh ps
  have hUn:0≤hi*2^s:=Int.mul_nonneg wh.1 (by omega)
  have s2:lo64 (lo*2^s)+18446744073709551616*(lo/2^(64-s))=lo*2^s:=by
    have key:lo64 (lo*2^s)=2^s*(lo % 2^(64-s)):=by
      unfold lo64
      rw [e64,Int.mul_comm lo,Int.mul_emod_mul_of_pos _ _ ps]
    rw [key,e64]
    have:=Int.mul_ediv_add_emod lo (2^(64-s))
    generalize lo/2^(64-s)=A at *
    generalize lo % 2^(64-s)=M at *
    rw [←this];grind
  have g0:0≤lo/2^(64-s):=Int.ediv_nonneg wl.1 (by omega)
  have g1:lo/2^(64-s)<2^s:=by
    have:=wl.2;rw [e64] at this;exact Int.ediv_lt_of_lt_mul ps2 this
  have hor:bits BinOp.or IntKind.u64 (IntKind.u64.wrap (hi*2^s)) (lo/2^(64-s))=lo/2^(64-s)+hi*2^s:=by
    rw [wrap_small hUn hUl]
    have:=or_disjoint (a:=lo/2^(64-s)) (b:=hi*2^s) (c:=hi) (r:=s) g0 g1 (Int.mul_comm _ _) wh.1 hUl (by omega)
    rw [←this]
    obtain ⟨A,hA⟩:=Int.eq_ofNat_of_zero_le g0
    obtain ⟨Bn,hB⟩:=Int.eq_ofNat_of_zero_le hUn
    have hA2:(A:Int)<18446744073709551616:=by
      have:=two_pow_le (j:=s) (k:=64) (by omega)
      have e:(2:Int)^64=18446744073709551616:=by decide
      omega
    rw [hA,hB,bits_or_u64_nat _ _ (by omega) (by omega),bits_or_u64_nat _ _ (by omega) (by omega),Nat.or_comm]
  have hUlt:lo/2^(64-s)+hi*2^s<y*2^s:=by
    have:=imR (show hi+1≤y by omega) (show 0≤(2:Int)^s by omega)
    rw [Int.add_mul] at this;omega
  have wT:=lo64_word (lo*2^s)
  have hTw:IntKind.u64.wrap (lo*2^s)=lo64 (lo*2^s):=wrap_lo _
  have hN:(lo/2^(64-s)+hi*2^s)*18446744073709551616+lo64 (lo*2^s)=(hi*18446744073709551616+lo)*2^s:=by grind
  generalize lo64 (lo*2^s)=T at *
  generalize lo/2^(64-s)+hi*2^s=U at *
  have hU0:0≤U:=by
    by_cases h:0≤U
    · exact h
    · have n1:0≤(hi*18446744073709551616+lo)*2^s:=Int.mul_nonneg (by have:=wh.1;have:=wl.1;omega) (by omega)
      have:=wT.2;omega
  obtain ⟨Y,hY⟩:∃ Y,Y=y*2^s:=⟨_,rfl⟩
  rw [←hY] at Yl Yu hUlt
  have d1:Dig (Y/4294967296) (Y % 4294967296) (T/4294967296) U:=⟨by omega,by omega,by omega,by omega,by have:=wT.1;omega,by have:=wT.2;omega,hU0,by omega⟩
  obtain ⟨x1,x2⟩:=dig_rest d1
  obtain ⟨R1,hR1⟩:∃ R1,R1=U*4294967296+T/4294967296-digQ (Y/4294967296) (Y % 4294967296) (T/4294967296) U*(Y/4294967296*4294967296+Y % 4294967296):=⟨_,rfl⟩
  rw [←hR1] at x1 x2
  have d2:Dig (Y/4294967296) (Y % 4294967296) (T % 4294967296) R1:=⟨by omega,by omega,by omega,by omega,by omega,by omega,x1,x2⟩
  obtain ⟨x3,x4⟩:=dig_rest d2
  obtain ⟨f1,f2⟩:=two_digs d1 hR1 d2
  have eY:Y/4294967296*4294967296+Y % 4294967296=Y:=by omega
  have eT:U*18446744073709551616+T/4294967296*4294967296+T % 4294967296=(hi*18446744073709551616+lo)*2^s:=by rw [←hN];omega
  rw [eT,eY] at f1 f2
  rw [eY] at hR1 x3 x4
  have q1a:=digQ_nonneg d1;have q1b:=digQ_lt d1;have q0a:=digQ_nonneg d2;have q0b:=digQ_lt d2
  refine ⟨s,Y,U,T,_,_,_,_,R1,R1*4294967296+T % 4294967296-digQ (Y/4294967296) (Y % 4294967296) (T % 4294967296) R1*Y,_,_,_,by omega,by omega,?_,hTw,by omega,wT.1,rfl,and_half (by omega) Yu,hor,rfl,and_half wT.1 wT.2,by omega,x1,hU0,d1,d2,rfl,rfl,x3,?_,?_,rfl,?_,?_⟩
  · rw [←hY];exact wrap_small (by omega) Yu
  · obtain ⟨k,hk⟩:=wrap_mod3 (U*4294967296) (T/4294967296) (digQ (Y/4294967296) (Y % 4294967296) (T/4294967296) U*Y)
    exact wrap_of_mod k (by rw [hk,hR1]) x1 (by omega)
  · obtain ⟨k,hk⟩:=wrap_mod3 (R1*4294967296) (T % 4294967296) (digQ (Y/4294967296) (Y % 4294967296) (T % 4294967296) R1*Y)
    exact wrap_of_mod k (by rw [hk]) x3 (by omega)
  · rw [wrap_small (x:=digQ (Y/4294967296) (Y % 4294967296) (T/4294967296) U*4294967296) (by omega) (by omega),wrap_small (by omega) (by omega),f1,hY,Int.mul_ediv_mul_of_pos_left _ _ ps]
  · rw [f2,hY,Int.mul_comm (hi*_+lo),Int.mul_comm y,Int.mul_emod_mul_of_pos _ _ ps,Int.mul_ediv_cancel_left _ (by omega)]
set_option maxRecDepth 100000 in
set_option maxHeartbeats 1600000 in
theorem div64_low(lo y a b:Int)(w:World)(h0:0<y)(_:0≤lo)(ha:IntKind.u64.wrap (lo.tdiv y)=a)(hb:lo.tmod y=b) :
    Calls Tryz.prog 133 #[.int .u64 0,.int .u64 lo,.int .u64 y] w fun e w'=>∃ n,e = .returned (.tuple #[.int .u64 a,.int .u64 b])∧w'=w.drewN n:=by
  go_enter Tryz.func133,Tryz.ntmps133
  go_wp2
  go_quiet (fail)
  go_wp2
  go_ret2
  exact ⟨_,rfl,rfl⟩
theorem div64_calls{hi lo y:Int}(wh:Word hi)(wl:Word lo)(wy:Word y)(h1:hi<y)(w:World) :
    Calls Tryz.prog 133 #[.int .u64 hi,.int .u64 lo,.int .u64 y] w fun e w' =>
      e = .returned (.tuple #[.int .u64 ((hi*18446744073709551616+lo)/y),.int .u64 ((hi*18446744073709551616+lo) % y)])∧∃ n,w'=w.drewN n:=by
  by_cases h0:0<hi
  · obtain ⟨s,Y,U,T,p,z,t1,t0,R1,R2,F1,Q1,Q0,hs,hb,c1,c2,c3,c4,c5,c6,c7,c8,c9,c10,c11,c12,c13,c14,c15,c16,c17,c18,c19,c20,f1,f2⟩:=div64_glue wh wl wy h0 h1
    refine (div64_walk hi lo y s Y U T p z t1 t0 R1 R2 F1 Q1 Q0 w h0 h1 wl.1 hs (fun w=>?_) c1 c2 c3 c4 c5 c6 c7 c8 c9 c10 c11 c12 c13 c14 c15 c16 c17 c18 c19 c20).mono ?_
    · refine (lead64_calls y w wy).mono ?_
      rintro e w' ⟨rfl,rfl⟩
      exact ⟨by rw [show (64:Int)-(blen y:Int)=(s:Int) from by omega],rfl⟩
    · rintro e w' ⟨rfl,rfl⟩
      exact ⟨by rw [f1,f2],0,rfl⟩
  · obtain rfl:hi=0:=by have:=wh.1;omega
    have q0:=Int.ediv_nonneg wl.1 (show 0≤y by omega)
    have q1:lo/y≤lo:=Int.ediv_le_self _ wl.1
    refine (div64_low lo y (lo/y) (lo % y) w h1 wl.1 ?_ ?_).mono ?_
    · rw [Int.tdiv_eq_ediv_of_nonneg wl.1];exact wrap_small q0 (by have:=wl.2;omega)
    · exact Int.tmod_eq_emod_of_nonneg wl.1
    · rintro e w' ⟨n,rfl,rfl⟩
      exact ⟨by rw [Int.zero_mul,Int.zero_add],n,rfl⟩
theorem div64_word{hi lo y:Int}(wh:Word hi)(wl:Word lo)(wy:Word y)(h1:hi<y):Word ((hi*18446744073709551616+lo)/y)∧Word ((hi*18446744073709551616+lo) % y)∧(hi*18446744073709551616+lo) % y<y:=by
  have h0:=wh.1;have h2:=wl.1;have h3:=wl.2;have h4:=wy.2
  have m0:=Int.emod_nonneg (hi*18446744073709551616+lo) (show y≠0 by omega)
  have m1:=Int.emod_lt_of_pos (hi*18446744073709551616+lo) (show 0<y by omega)
  refine ⟨⟨Int.ediv_nonneg (by omega) (by omega),Int.ediv_lt_of_lt_mul (by omega) ?_⟩,⟨m0,by omega⟩,m1⟩
  have:=imR (show hi+1≤y by omega) (show (0:Int)≤18446744073709551616 by omega)
  omega
def RNatW(w:World)(xs:List Int)(x:Int)(e:Ending)(w':World):Prop:=∃ v,e = .returned (.tuple #[v,.int .u64 x])∧NatAt w.heap.size w' v xs∧Below w.heap.size w w'
theorem RowAt.draws{w:World}{G:Nat}{xs:List Int}(h:RowAt w G xs)(n:Nat):RowAt (w.drewN n) G xs:=h.below (below_draws (Below.refl _ _) n)
theorem short_step{xs ts:List Int}{k:Nat}{d r:Int}(_:0<d)(hk:k<xs.length)(h:val ts*d+r=val (xs.drop (k+1))) :
    val ((r*18446744073709551616+nth xs k)/d :: ts)*d+(r*18446744073709551616+nth xs k) % d=val (xs.drop k):=by
  rw [List.drop_eq_getElem_cons hk,val_cons,val_cons,←h,←nth_lt hk]
  have:=Int.mul_ediv_add_emod (r*18446744073709551616+nth xs k) d
  generalize (r*18446744073709551616+nth xs k)/d=Q at *
  generalize (r*18446744073709551616+nth xs k) % d=M at *
  grind
set_option maxHeartbeats 1600000 in
theorem lshort_calls{B:Nat}{w:World}{v:Value}{xs:List Int}{d:Int}(h:NatAt B w v xs)(wd:Word d)(hd:0<d) :
    Calls Tryz.prog 125 #[v,.int .u64 d] w (RNatW w (ws (val xs/d)) (val xs % d)):=by
  obtain ⟨A1,L1,c1,g1,o1,rfl,a1,k1,q1,l1,hg1,hc1,e1,wx⟩:=h.sub
  have WD:Hid (Word d):=wd
  have b1:L1≤17592186044415:=by have:=e1.out;omega
  have hmk:=make_run 22 Tryz.underlying22 L1 (by omega)
  clear h wd
  go_enter Tryz.func125,Tryz.ntmps125
  go_wp2
  go_loopw [7,8] (fun r i wr=>∃ (k:Nat) (ts:List Int) (rr:Int),k≤L1∧i = .int .i64 ((k:Int)-1)∧r = .int .u64 rr∧w.heap.size<wr.heap.size∧RowAt wr w.heap.size (List.replicate k 0 ++ ts)∧Below w.heap.size w wr∧Hid (ts.length+k=L1∧Words ts∧Word rr∧rr<d∧val ts*d+rr=val (xs.drop k))) (fun _ i _=>(intOf i+1).toNat)
  case atStart =>
    refine ⟨L1,[],0,Nat.le_refl _,rfl,rfl,by simp,?_,below_also _ _,by simp,Words.nil,⟨by omega,by omega⟩,hd,?_⟩
    · rw [List.append_nil];exact RowAt.made _ _
    · rw [List.drop_of_length_le (by rw [e1.out];omega)];simp [val]
  case round =>
    obtain ⟨k,ts,rr,hk,rfl,rfl,hG,hrow,hbel,hr⟩:=hrel
    obtain ⟨r1,r2,r3,r4,r5⟩:=hr.out
    by_cases h0:0<k
    · obtain ⟨j,rfl⟩:∃ j,k=j+1:=⟨k-1,by omega⟩
      obtain rfl:=a1 (by omega)
      have hg1':=hg1 (by omega)
      have hxj:wr.cell? ⟨g1,o1+j,none⟩=some (.int .u64 (nth xs j)):=((bcell hbel).1 _ _ hg1').trans (hc1 j (by omega))
      have e0:((j+1:Nat):Int)-1=(j:Int):=by omega
      rw [e0]
      clear e0
      have wxj:Hid (Word (nth xs j)):=wx.out.nth j
      have hlen:(List.replicate (j+1) (0:Int) ++ ts).length=L1:=by simp;omega
      have hcall:=fun W=>div64_calls r3 wxj.out WD.out r4 W
      obtain ⟨w1,w2,w3⟩:=div64_word r3 wxj.out WD.out r4
      have hst:=short_step hd (show j<xs.length by rw [e1.out];omega) r5
      generalize (rr*18446744073709551616+nth xs j)/d=Q at *
      generalize (rr*18446744073709551616+nth xs j) % d=M at *
      have hnew:RowAt (wr.setCell ⟨w.heap.size,j,none⟩ (.int .u64 Q)) w.heap.size (List.replicate j 0 ++ (Q :: ts)):=by
        have:=hrow.set j Q
        rw [List.replicate_succ',List.append_assoc,List.set_append_right _ _ (by simp),List.length_replicate,Nat.sub_self] at this
        exact this
      have hout:∀ n,(wr.drewN n).cell? ⟨w.heap.size,j,none⟩=some (.int .u64 (nth (List.replicate (j+1) 0 ++ ts) j)):=fun n=>(hrow.draws n).cell (by omega)
      have hfr:∀ n,(wr.drewN n).frozen? ⟨w.heap.size,j,none⟩=false:=fun n=>(hrow.draws n).frozen _
      have hnew':Hid (∀ n,RowAt ((wr.drewN n).setCell ⟨w.heap.size,j,none⟩ (.int .u64 Q)) w.heap.size (List.replicate j 0 ++ (Q :: ts))):=fun n=>by
        have:=(hrow.draws n).set j Q
        rw [List.replicate_succ',List.append_assoc,List.set_append_right _ _ (by simp),List.length_replicate,Nat.sub_self] at this
        exact this
      have hrel':Hid ((Q :: ts).length+j=L1∧Words (Q :: ts)∧Word M∧M<d∧val (Q :: ts)*d+M=val (xs.drop j)):=⟨by simp;omega,r2.cons w1,w2,w3,hst⟩
      have hbel2:Hid (∀ n,Below w.heap.size w ((wr.drewN n).setCell ⟨w.heap.size,j,none⟩ (.int .u64 Q))):=fun n=>(below_draws hbel n).setCell (Nat.le_refl _) _
      have HC:=Lib.hid hcall
      clear hr r1 r2 r3 r4 r5 w1 w2 w3 hst hrow hbel hnew hlen hcall
      go_wp2_with fail
      refine (HC.out _).mono ?_
      rintro e w' ⟨rfl,n,rfl⟩
      have hout':=hout n
      have hfr':=hfr n
      clear hout hfr
      go_wp2
      go_roundw
      case rel=>exact ⟨j,Q :: ts,M,by omega,rfl,rfl,by simpa using hG,hnew'.out n,hbel2.out n,hrel'⟩
      case measure=>simp [intOf]
    · obtain rfl:k=0:=by omega
      have hn1:Hid (NatAt w.heap.size wr (.slice (some ⟨w.heap.size,0,none⟩) L1 L1) ts):=by
        rw [List.replicate_zero,List.nil_append] at hrow
        exact hrow.nat (Nat.le_refl _) r2 _ (by omega) (by omega)
      have hval:Hid (val ts=val xs/d∧rr=val xs % d):=by
        rw [List.drop_zero] at r5
        have h0:=r3.1
        refine ⟨?_,?_⟩
        · rw [←r5,Int.add_comm,Int.add_mul_ediv_right _ _ (by omega),Int.ediv_eq_zero_of_lt h0 r4,Int.zero_add]
        · rw [←r5,Int.add_comm,Int.add_mul_emod_self_right,Int.emod_eq_of_lt h0 r4]
      have hbel2:Hid (Below w.heap.size w wr):=hbel
      clear hr r1 r2 r3 r4 r5 hrow hbel
      go_wp2_with fail
      refine (trim_calls hn1.out).mono ?_
      rintro e w' ⟨v',rfl,hn',rfl⟩
      go_wp2
      go_ret2
      refine ⟨v',by rw [←hval.out.2];rfl,?_,hbel2.out⟩
      rw [←hval.out.1];exact hn'
theorem nat_of_own{w:World}{B n:Nat}{v:Value}{xs:List Int}(hl:xs.length≤17592186044415)(hw:Words xs)(h:w.ownsRow B 52 1 v n (xs.map (Value.int .u64))):NatAt B w v xs:=by
  have hn:xs.length=n:=by have:=h.1;simpa using this
  rcases h.2 with ⟨rfl,rfl⟩|⟨g,cap,cur,rfl,hb,hh,h1,h2,h3,h4⟩
  · obtain rfl:xs = []:=List.eq_nil_of_length_eq_zero hn
    exact NatAt.nil _ _
  · subst hn
    refine ⟨_,cap,rfl,h1,⟨by simpa [maxLen] using h2,hl⟩,hw,by simp,fun _=>⟨g,0,rfl,hb,(Array.getElem?_eq_some_iff.1 hh).1,fun j hj=>⟨?_,by rw [Nat.zero_add];exact frozen_of_row w g j _ _ hh⟩⟩⟩
    rw [Nat.zero_add,cell_of_row w g j _ _ _ hh]
    have:(cur.toList.take (xs.length*1))[j]?=some (.int .u64 (nth xs j)):=by rw [h4];simp [nth_get? hj]
    rw [List.getElem?_take,if_pos (by omega)] at this
    simpa using this
theorem wpList_append_copy{P0:Program}(hP0:P0=Tryz.prog)(B0:Nat){w0 w:World}{ops:Array Oper}{rest:List Oper}{o:Oper}{a:Act}{Q:Exit→Act→World→Prop}(hgd:o.guard=none)(s x:Operand)(t:TypeId)
    (ho:o.op = .call { callee:=.builtin .append,args:=#[s,x],argTypes:=#[t,t] }) (ht:P0.underlying t=some (.slice 52))
    {B:Nat} {v0 v:Value} {xs:List Int} (hs:a.eval s=v0) (hx:a.eval x=v) (hown:w.ownsRow B0 52 1 v0 0 []) (hn:NatAt B w v xs) (hb:Below B0 w0 w) (hB0:B0≤w.heap.size)
    (h:∀ v' w',NatAt B0 w' v' xs→Below B0 w0 w'→w.grownBy w' v0.ownBlock→wpList P0 ops Q rest (a.put o.dst v') w'):wpList P0 ops Q (o :: rest) a w:=by
  subst hP0
  obtain ⟨i0,hi,h0,h1,h2⟩:=info_parts info_u64
  have hrow:∀ k,v0.ownBlock=some k→B0≤k:=fun k hk=>(hown.lt k hk).1
  have key:∀ (ad:Addr) (c:Nat),v = .slice (some ad) xs.length c→(∀ j u,(xs.map (Value.int .u64))[j]?=some u→w.cell? (ad.add j)=some u)→wpList Tryz.prog ops Q (o :: rest) a w:=by
    intro ad c hv hc
    refine wpList_append_own w hgd s x t ho B0 _ i0 (.int .u64 0) 1 8 ht hi h0 h1 h2 rfl (by decide) v0 0 [] hs hown ad xs.length c (xs.map (Value.int .u64)) (by rw [hx,hv]) (by simp) hc (ints_oneCell .u64 xs) ?_ ?_ hB0 ?_
    · have:=hn.len;simp only [maxLen];omega
    · have:=hn.len;omega
    · intro v' w' hown' hg _
      rw [Nat.zero_add,List.nil_append] at hown'
      exact h v' w' (nat_of_own hn.len hn.words hown') (hb.grown hg hB0 hrow) hg
  by_cases hx0:xs = []
  · rcases hn.open0' hx0 with rfl | ⟨ad,c,rfl⟩
    · refine wpList_append_own_none hgd s x t ho B0 _ i0 1 ht hi v0 0 [] hs hown hx ?_
      refine h v0 w ?_ hb (World.grownBy.refl _ _)
      have:xs.map (Value.int .u64) = []:=by rw [hx0];rfl
      exact nat_of_own (n:=0) hn.len hn.words (by rw [this];exact hown)
    · exact key ad c (by rw [hx0];rfl) (fun j u hj=>by rw [hx0] at hj;simp at hj)
  · obtain ⟨A,L,c,g,o',rfl,ha,_,_,_,hg,hc,e,_⟩:=hn.sub
    have hp:0<xs.length:=List.length_pos_iff.2 hx0
    have e':xs.length=L:=e.out
    obtain rfl:=ha (by omega)
    refine key ⟨g,o',none⟩ c (by rw [e']) (fun j u hj=>?_)
    have hjl:j<xs.length:=by
      by_cases hjl:j<xs.length
      · exact hjl
      · rw [List.getElem?_eq_none (by simp;omega)] at hj;cases hj
    rw [List.getElem?_map,nth_get? hjl] at hj
    simp only [Option.map_some,Option.some.injEq] at hj
    subst hj
    have:(⟨g,o',none⟩:Addr).add j=⟨g,o' + j,none⟩:=by unfold Addr.add;split<;>simp_all
    rw [this];exact hc j (by omega)
set_option maxHeartbeats 800000 in
theorem norm_calls{B:Nat}{w:World}{v:Value}{xs:List Int}(h:NatAt B w v xs):Calls Tryz.prog 11 #[v] w (RNat w (ws (val xs))):=by
  obtain ⟨A,L,c,g,o,rfl,ha,hk,hq,hL,hg,hc,e,wx⟩:=h.sub
  have htl:Hid (trimTo xs L=(ws (val xs)).length):=by show _=_;rw [←trimTo_length wx.out,e.out]
  have htt:Hid (xs.take (trimTo xs L)=ws (val xs)):=by show _=_;rw [←take_trimTo wx.out,e.out]
  have htle:trimTo xs L≤L:=trimTo_le xs L
  have HN:=Lib.hid h
  clear h
  generalize hK:trimTo xs L=K at *
  have HK:=Lib.hid hK
  clear hK
  go_enter Tryz.func11,Tryz.ntmps11
  go_wp2
  go_loop [3] (fun i=>∃ k:Nat,k≤L∧i = .int .i64 k∧Hid (K=trimTo xs k)) (fun i=>(intOf i).toNat)
  case atStart=>exact ⟨L,Nat.le_refl _,rfl,HK.out.symm⟩
  case round =>
    obtain ⟨k,hk',rfl,hr⟩:=hrel
    by_cases h0:0<k∧nth xs (k-1)=0
    · obtain ⟨h0,hz⟩:=h0
      obtain ⟨m,rfl⟩:∃ m,k=m+1:=⟨k-1,by omega⟩
      rw [Nat.add_sub_cancel] at hz
      obtain rfl:=ha (by omega)
      have hcm:=hc m (by omega)
      have hb:(nth xs m == 0)=true:=by simpa using hz
      have hr':Hid (K=trimTo xs m):=by show _=_;rw [hr.out,trimTo,if_pos hz]
      clear hz hr
      go_wp2
      go_round
      case rel=>exact ⟨m,by omega,rfl,hr'⟩
      case measure=>simp [intOf]
    · have hK:K=k:=by
        rw [hr.out]
        cases k with
        | zero=>rfl
        | succ m =>
          rw [Nat.add_sub_cancel] at h0
          rw [trimTo,if_neg (fun hz=>h0 ⟨by omega,hz⟩)]
      subst hK
      have hcut:NatAt B w (.slice A K c) (ws (val xs)):=by
        obtain ⟨A',c',e1,h1,h2,h3,h5,h4⟩:=HN.out
        simp only [Value.slice.injEq] at e1
        obtain ⟨rfl,_,rfl⟩:=e1
        have hl:(ws (val xs)).length=K:=htl.out.symm
        refine ⟨_,_,by rw [hl],by omega,⟨h2.1,by omega⟩,words_ws _,h5,fun hp=>?_⟩
        obtain ⟨g',o',e2,hB,hg',hc'⟩:=h4 (by have:=e.out;omega)
        refine ⟨g',o',e2,hB,hg',fun j hj=>⟨?_,(hc' j (by have:=e.out;omega)).2⟩⟩
        rw [(hc' j (by have:=e.out;omega)).1,←htt.out,nth_take (by omega)]
      have HC:=Lib.hid hcut
      clear hcut
      by_cases hk0:0<K
      · obtain ⟨m,rfl⟩:∃ m,K=m+1:=⟨K-1,by omega⟩
        obtain rfl:=ha (by omega)
        have hcm:=hc m (by omega)
        have hb:(nth xs m == 0)=false:=by
          have:nth xs m≠0:=fun hz=>h0 ⟨by omega,by rw [Nat.add_sub_cancel];exact hz⟩
          simpa using this
        clear h0 hr
        go_wp2_with (at_builtin;refine wpList_append_copy rfl w.heap.size rfl (.tmp 19) (.tmp 22) 23 rfl Tryz.underlying23 rfl rfl (World.ownsRow_nil _ _ _ _) HC.out (Below.refl _ _) (Nat.le_refl _) ?_;intro v3 w3 hn3 hb3 _)
        have HN3:=Lib.hid hn3;have HB3:=Lib.hid hb3
        clear hn3 hb3
        go_wp2
        go_ret
        exact ⟨_,rfl,HN3.out,HB3.out⟩
      · obtain rfl:K=0:=by omega
        clear h0 hr
        go_wp2_with (at_builtin;refine wpList_append_copy rfl w.heap.size rfl (.tmp 19) (.tmp 22) 23 rfl Tryz.underlying23 rfl rfl (World.ownsRow_nil _ _ _ _) HC.out (Below.refl _ _) (Nat.le_refl _) ?_;intro v3 w3 hn3 hb3 _)
        have HN3:=Lib.hid hn3;have HB3:=Lib.hid hb3
        clear hn3 hb3
        go_wp2
        go_ret
        exact ⟨_,rfl,HN3.out,HB3.out⟩
def greatB(n:Int):Bool:=decide (1024<(ws n).length)
set_option maxHeartbeats 800000 in
theorem great_calls{B:Nat}{w:World}{v:Value}{xs:List Int}(h:NatAt B w v xs):Calls Tryz.prog 65 #[v] w fun e w'=>e = .returned (.bool (greatB (val xs)))∧w=w':=by
  obtain ⟨A,L,c,g,o,rfl,ha,hk,hq,hL,hg,hc,e,wx⟩:=h.sub
  have htl:Hid (greatB (val xs)=decide (1024<trimTo xs L)):=by show _=_;rw [greatB,←trimTo_length wx.out,e.out]
  clear h
  go_enter Tryz.func65,Tryz.ntmps65
  go_wp2
  go_loop [3,8] (fun n i=>∃ k t:Nat,k≤L∧i = .int .i64 k∧n = .int .i64 t∧t≤k∧Hid (t=trimTo xs k)) (fun _ i=>L-(intOf i).toNat)
  case atStart=>exact ⟨0,0,by omega,rfl,rfl,by omega,rfl⟩
  case round =>
    obtain ⟨k,t,hk',rfl,rfl,htk,hr⟩:=hrel
    by_cases hlt:k<L
    · obtain rfl:=ha (by omega)
      have hck:=hc k hlt
      by_cases hz:nth xs k=0
      · have hb:(nth xs k != 0)=false:=by simpa using hz
        have hr':Hid (t=trimTo xs (k+1)):=by show _=_;rw [trimTo,if_pos hz];exact hr.out
        clear hz hr
        go_wp2
        go_round
        case rel=>exact ⟨k+1,t,by omega,by go_num,rfl,by omega,hr'⟩
        case measure=>simp [intOf];omega
      · have hb:(nth xs k != 0)=true:=by simpa using hz
        have hr':Hid (k+1=trimTo xs (k+1)):=by show _=_;rw [trimTo,if_neg hz]
        clear hz hr
        go_wp2
        go_round
        case rel=>exact ⟨k+1,k+1,by omega,by go_num,by go_num,by omega,hr'⟩
        case measure=>simp [intOf];omega
    · obtain rfl:L=k:=by omega
      have hb:Hid (greatB (val xs)=decide (1024<(t:Int))):=by
        show _=_
        rw [htl.out,←hr.out,Bool.eq_iff_iff];simp;omega
      clear hr htl
      go_wp2
      go_ret
      exact ⟨by rw [hb.out];rfl,rfl⟩
theorem of3_calls(x:Int)(w:World)(hx:Word x):Calls Tryz.prog 33 #[.int .u64 x] w (RNat w (ws x)):=by
  have hn:Hid (NatAt w.heap.size (w.alloc (.cells #[.int .u64 x] 52)) (.slice (some ⟨w.heap.size,0,none⟩) 1 1) [x]):=by
    refine ⟨_,1,rfl,by simp,⟨by omega,by simp⟩,Words.nil.cons hx,by simp,fun _=>⟨w.heap.size,0,rfl,Nat.le_refl _,by simp,fun j hj=>?_⟩⟩
    obtain rfl:j=0:=by simpa using hj
    rw [Nat.zero_add]
    have:(w.alloc (.cells #[.int .u64 x] 52)).cell? ⟨w.heap.size,0,none⟩=some (.int .u64 x):=by go_simp
    rw [this];exact ⟨rfl,frozen_of_row _ _ 0 _ _ (heap_alloc_new w _)⟩
  have hv:Hid (val [x]=x):=by show _=_;simp [val]
  clear hx
  go_enter Tryz.func33,Tryz.ntmps33
  go_wp2_with fail
  refine (norm_calls hn.out).mono ?_
  rintro e w' ⟨v,rfl,hn1,hb1⟩
  rw [hv.out] at hn1
  have HN1:=Lib.hid hn1;have HB1:=Lib.hid hb1
  clear hn1 hb1
  go_wp2
  go_ret
  exact ⟨_,rfl,HN1.out.mono (by simp),below_then (below_also _ _) HB1.out⟩
theorem word_calls{B:Nat}{w:World}{v:Value}{xs:List Int}(h:NatAt B w v xs)(i:Int)(k:Nat)(hi:i=(k:Int)) :
    Calls Tryz.prog 102 #[v,.int .i64 i] w fun e w'=>e = .returned (.int .u64 (nth xs k))∧w=w':=by
  subst hi
  obtain ⟨A,L,c,g,o,rfl,ha,hk,hq,hL,hg,hc,e,wx⟩:=h.sub
  clear h
  by_cases hlt:k<L
  · obtain rfl:=ha (by omega)
    have hck:=hc k hlt
    go_enter Tryz.func102,Tryz.ntmps102
    go_wp2
    go_ret
    exact ⟨rfl,rfl⟩
  · have hz:Hid (nth xs k=0):=nth_ge (by have:=e.out;omega)
    have hkL:¬ ((k:Int)<(L:Int)):=by omega
    go_enter Tryz.func102,Tryz.ntmps102
    go_wp2
    go_ret
    rw [hz.out];exact ⟨rfl,rfl⟩
def OwnL(w:World)(B:Nat)(v:Value)(xs:List Int):Prop:=w.ownsRow B 52 1 v xs.length (xs.map (Value.int .u64))
theorem OwnL.nil(w:World)(B:Nat):OwnL w B (.slice none 0 0) []:=World.ownsRow_nil _ _ _ _
theorem OwnL.nat{w:World}{B:Nat}{v:Value}{xs:List Int}(h:OwnL w B v xs)(hl:xs.length≤17592186044415)(hw:Words xs):NatAt B w v xs:=nat_of_own hl hw h
theorem OwnL.row{w:World}{G B n:Nat}{xs:List Int}(h:RowAt w G xs)(hB:B≤G)(hl:xs.length=n)(hn:n≤17592186044415):OwnL w B (.slice (some ⟨G,0,none⟩) n n) xs:=by
  subst hl
  refine ⟨by simp,.inr ⟨G,_,_,rfl,hB,h,Nat.le_refl _,by simp only [maxLen];omega,by simp [cellsOf],?_⟩⟩
  simp only [cellsOf]
  exact List.take_of_length_le (by simp)
theorem wpList_append_word{w0 W:World}(B:Nat){ops:Array Oper}{rest:List Oper}{o:Oper}{a:Act}{Q:Exit→Act→World→Prop}(hgd:o.guard=none)(s x:Operand)(t:TypeId)
    (ho:o.op = .call { callee:=.builtin .append,args:=#[s,x],argTypes:=#[t,t] }) (ht:Tryz.prog.underlying t=some (.slice 52))
    (v:Value) (zs:List Int) (y:Int) (hs:a.eval s=v) (hx:a.eval x = .slice (some ⟨W.heap.size,0,none⟩) 1 1)
    (HO:OwnL W B v zs) (HB:Below B w0 W) (hbase:B≤W.heap.size) (hl:zs.length+1≤17592186044415)
    (h:∀ v1 w1,OwnL w1 B v1 (zs ++ [y])→Below B w0 w1→wpList Tryz.prog ops Q rest (a.put o.dst v1) w1) :
    wpList Tryz.prog ops Q (o :: rest) a (W.alloc (.cells #[.int .u64 y] 52)):=by
  obtain ⟨i0,hi,h0,h1,h2⟩:=info_parts info_u64
  refine wpList_append_own (W.alloc (.cells #[.int .u64 y] 52)) hgd s x t ho B _ i0 (.int .u64 0) 1 8 ht hi h0 h1 h2 rfl (by decide) v zs.length (zs.map (Value.int .u64)) hs (HO.alloc _) ⟨W.heap.size,0,none⟩ 1 1 [.int .u64 y] hx rfl
    (cell_one_new _ _ _) (by simp [Value.oneCell']) (by simp only [maxLen];omega) (by omega) (by simp;omega) ?_
  intro v1 w1 hown hg _
  refine h v1 w1 ?_ ((HB.alloc hbase _).grown hg (by simp;omega) (fun k hk=>(World.ownsRow.lt HO k hk).1))
  unfold OwnL
  simpa using hown
theorem add3_carry{x y c s:Int}(hx:Word x)(hy:Word y)(hc:c=0∨c=1)(hs:s=lo64 (x+y+c)):hi64 (x+y+c)=(if s<x then 1 else if s=x∧c=1 then 1 else 0)∧(s=x∧c=1→¬ s<x→0<y):=by
  have:=hx.1;have:=hx.2;have:=hy.1;have:=hy.2
  unfold lo64 at hs
  unfold hi64
  refine ⟨?_,by omega⟩
  split
  · omega
  · split<;>omega
theorem sub3_borrow{x y c:Int}(hx:Word x)(hy:Word y)(hc:c=0∨c=1):-hi64 (x-y-c)=(if x<y then 1 else if x=y∧c=1 then 1 else 0):=by
  have:=hx.1;have:=hx.2;have:=hy.1;have:=hy.2
  unfold hi64
  split
  · omega
  · split<;>omega
theorem add3_next{zs X Y:List Int}{k:Nat}{s c c':Int}(hl:zs.length=k)(h:val zs+wpow k*c=val (X.take k)+val (Y.take k))(e:s+18446744073709551616*c'=nth X k+nth Y k+c) :
    val (zs ++ [s])+wpow (k+1)*c'=val (X.take (k+1))+val (Y.take (k+1)):=by
  rw [val_append,hl,wpow_succ,val_take_more,val_take_more]
  simp only [val,Int.mul_zero,Int.add_zero]
  have:wpow k*(s+18446744073709551616*c')=wpow k*(nth X k+nth Y k+c):=by rw [e]
  generalize nth X k=x at *
  generalize nth Y k=y at *
  clear e
  grind
theorem sub3_next{zs X Y:List Int}{k:Nat}{s c c':Int}(hl:zs.length=k)(h:val zs-wpow k*c=val (X.take k)-val (Y.take k))(e:s-18446744073709551616*c'=nth X k-nth Y k-c) :
    val (zs ++ [s])-wpow (k+1)*c'=val (X.take (k+1))-val (Y.take (k+1)):=by
  rw [val_append,hl,wpow_succ,val_take_more,val_take_more]
  simp only [val,Int.mul_zero,Int.add_zero]
  have:wpow k*(s-18446744073709551616*c')=wpow k*(nth X k-nth Y k-c):=by rw [e]
  generalize nth X k=x at *
  generalize nth Y k=y at *
  clear e
  grind
set_option maxHeartbeats 3200000 in
set_option maxRecDepth 100000 in
theorem add3_calls{B B':Nat}{w:World}{v v':Value}{xs ys:List Int}(h:NatAt B w v xs)(h':NatAt B' w v' ys)(hx:xs.length≤17592186044414)(hy:ys.length≤17592186044414) :
    Calls Tryz.prog 104 #[v,v'] w (RNat w (ws (val xs+val ys))):=by
  obtain ⟨A1,L1,c1,rfl,e1,k1,q1⟩:=h.open
  obtain ⟨A2,L2,c2,rfl,e2,k2,q2⟩:=h'.open
  have b1:L1≤17592186044414:=by have:=e1.out;omega
  have b2:L2≤17592186044414:=by have:=e2.out;omega
  have HX:=Lib.hid h;have HY:=Lib.hid h'
  have wx:Hid (Words xs):=h.words
  have wy:Hid (Words ys):=h'.words
  clear h h' hx hy
  obtain ⟨L,hL⟩:∃ L,Hid (L=max L1 L2):=⟨_,rfl⟩
  have l1:L1≤L:=by have:=hL.out;omega
  have l2:L2≤L:=by have:=hL.out;omega
  have l3:L≤17592186044414:=by have:=hL.out;omega
  have hmax:(max (L1:Int) (L2:Int))=(L:Int):=by have:=hL.out;omega
  have hmax1:∀ k:Nat,k<L→decide ((k:Int)<max (L1:Int) (L2:Int))=true:=fun k hk=>by simp;have:=hL.out;omega
  have hmax0:∀ k:Nat,¬ k<L→decide ((k:Int)<max (L1:Int) (L2:Int))=false:=fun k hk=>by simp;have:=hL.out;omega
  go_enter Tryz.func104,Tryz.ntmps104
  go_wp2
  go_loopw [5,6,7] (fun o c i wr=>∃ (k:Nat) (zs:List Int) (cc:Int),k≤L∧i = .int .i64 k∧c = .int .u64 cc∧(cc=0∨cc=1)∧OwnL wr w.heap.size o zs∧Below w.heap.size w wr∧Hid (zs.length=k∧Words zs∧val zs+wpow k*cc=val (xs.take k)+val (ys.take k))) (fun _ _ i _=>L-(intOf i).toNat)
  case atStart=>exact ⟨0,[],0,by omega,rfl,rfl,by omega,OwnL.nil _ _,Below.refl _ _,rfl,Words.nil,by simp [val]⟩
  case round =>
    obtain ⟨k,zs,cc,hk,rfl,rfl,hcc,ho,hbel,hr⟩:=hrel
    have HO:=Lib.hid ho;have HB:=Lib.hid hbel
    have hlz:zs.length+1≤17592186044415:=by have:=hr.out.1;omega
    by_cases hlt:k<L
    · have hdec:=hmax1 k hlt
      have HWx:Hid (Calls Tryz.prog 102 #[.slice A1 L1 c1,.int .i64 (k:Int)] wr fun e w'=>e = .returned (.int .u64 (nth xs k))∧wr=w'):=word_calls (HX.out.below hbel) (k:Int) k rfl
      have HWy:Hid (Calls Tryz.prog 102 #[.slice A2 L2 c2,.int .i64 (k:Int)] wr fun e w'=>e = .returned (.int .u64 (nth ys k))∧wr=w'):=word_calls (HY.out.below hbel) (k:Int) k rfl
      have wxk:=wx.out.nth k
      have wyk:=wy.out.nth k
      obtain ⟨s,hs⟩:∃ s,s=lo64 (nth xs k+nth ys k+cc):=⟨_,rfl⟩
      obtain ⟨hcar,hyp⟩:=add3_carry wxk wyk hcc hs
      have hlh:=lo_hi (nth xs k+nth ys k+cc)
      rw [←hs] at hlh
      have ws:Word s:=by rw [hs];exact lo64_word _
      have hr1:IntKind.u64.wrap (nth xs k+nth ys k)=lo64 (nth xs k+nth ys k):=wrap_lo _
      have hr2:IntKind.u64.wrap (lo64 (nth xs k+nth ys k)+cc)=s:=by
        rw [wrap_lo,hs];unfold lo64;omega
      by_cases hcs:s<nth xs k
      · have hnew:Hid ((zs ++ [s]).length=k+1∧Words (zs ++ [s])∧val (zs ++ [s])+wpow (k+1)*1=val (xs.take (k+1))+val (ys.take (k+1))):=⟨by simp [hr.out.1],hr.out.2.1.append (Words.nil.cons ws),add3_next hr.out.1 hr.out.2.2 (by rw [if_pos hcs] at hcar;omega)⟩
        clear hs hlh hcar ws wxk wyk hr hyp ho hbel
        generalize nth xs k=x at *
        generalize nth ys k=y at *
        go_wp2_with fail
        refine HWx.out.mono ?_
        rintro e w' ⟨rfl,rfl⟩
        go_wp2_with fail
        refine HWy.out.mono ?_
        rintro e w' ⟨rfl,rfl⟩
        go_wp2_with (at_builtin;refine wpList_append_word w.heap.size rfl (.tmp 47) (.tmp 49) 23 rfl Tryz.underlying23 _ zs s rfl rfl HO.out HB.out HB.out.size hlz ?_;intro v1 w1 ho1 hb1)
        have HO1:=Lib.hid ho1;have HB1:=Lib.hid hb1
        clear ho1 hb1
        go_wp2
        go_roundw
        case rel=>exact ⟨k+1,zs ++ [s],1,by omega,by go_num,rfl,by omega,HO1.out,HB1.out,hnew⟩
        case measure=>simp [intOf];omega
      · by_cases hce:s=nth xs k
        · rcases hcc with rfl | rfl
          · have hnew:Hid ((zs ++ [s]).length=k+1∧Words (zs ++ [s])∧val (zs ++ [s])+wpow (k+1)*0=val (xs.take (k+1))+val (ys.take (k+1))):=⟨by simp [hr.out.1],hr.out.2.1.append (Words.nil.cons ws),add3_next hr.out.1 hr.out.2.2 (by rw [if_neg hcs,if_neg (by omega)] at hcar;omega)⟩
            clear hs hlh hcar ws wxk wyk hr hyp ho hbel
            generalize nth xs k=x at *
            generalize nth ys k=y at *
            have hr3:=hr2;rw [Int.add_zero] at hr3
            have hb:(s == x)=true:=by simpa using hce
            have HE:=Lib.hid hce;clear hce
            go_wp2_with fail
            refine HWx.out.mono ?_
            rintro e w' ⟨rfl,rfl⟩
            go_wp2_with fail
            refine HWy.out.mono ?_
            rintro e w' ⟨rfl,rfl⟩
            go_wp2_with (at_builtin;refine wpList_append_word w.heap.size rfl (.tmp 47) (.tmp 49) 23 rfl Tryz.underlying23 _ zs s rfl rfl HO.out HB.out HB.out.size hlz ?_;intro v1 w1 ho1 hb1)
            have HO1:=Lib.hid ho1;have HB1:=Lib.hid hb1
            clear ho1 hb1
            go_wp2
            go_roundw
            case rel=>exact ⟨k+1,zs ++ [s],0,by omega,by go_num,rfl,by omega,HO1.out,HB1.out,hnew⟩
            case measure=>simp [intOf];omega
          · have hy1:0<nth ys k:=hyp ⟨hce,rfl⟩ hcs
            have hnew:Hid ((zs ++ [s]).length=k+1∧Words (zs ++ [s])∧val (zs ++ [s])+wpow (k+1)*1=val (xs.take (k+1))+val (ys.take (k+1))):=⟨by simp [hr.out.1],hr.out.2.1.append (Words.nil.cons ws),add3_next hr.out.1 hr.out.2.2 (by rw [if_neg hcs,if_pos ⟨hce,rfl⟩] at hcar;omega)⟩
            clear hs hlh hcar ws wxk wyk hr hyp ho hbel
            generalize nth xs k=x at *
            generalize nth ys k=y at *
            have hb:(s == x)=true:=by simpa using hce
            have HE:=Lib.hid hce;clear hce
            go_wp2_with fail
            refine HWx.out.mono ?_
            rintro e w' ⟨rfl,rfl⟩
            go_wp2_with fail
            refine HWy.out.mono ?_
            rintro e w' ⟨rfl,rfl⟩
            go_wp2_with (at_builtin;refine wpList_append_word w.heap.size rfl (.tmp 47) (.tmp 49) 23 rfl Tryz.underlying23 _ zs s rfl rfl HO.out HB.out HB.out.size hlz ?_;intro v1 w1 ho1 hb1)
            have HO1:=Lib.hid ho1;have HB1:=Lib.hid hb1
            clear ho1 hb1
            go_wp2
            go_roundw
            case rel=>exact ⟨k+1,zs ++ [s],1,by omega,by go_num,rfl,by omega,HO1.out,HB1.out,hnew⟩
            case measure=>simp [intOf];omega
        · have hnew:Hid ((zs ++ [s]).length=k+1∧Words (zs ++ [s])∧val (zs ++ [s])+wpow (k+1)*0=val (xs.take (k+1))+val (ys.take (k+1))):=⟨by simp [hr.out.1],hr.out.2.1.append (Words.nil.cons ws),add3_next hr.out.1 hr.out.2.2 (by rw [if_neg hcs,if_neg (fun h=>hce h.1)] at hcar;omega)⟩
          clear hs hlh hcar ws wxk wyk hr hyp ho hbel
          generalize nth xs k=x at *
          generalize nth ys k=y at *
          have hb:(s == x)=false:=by simpa using hce
          go_wp2_with fail
          refine HWx.out.mono ?_
          rintro e w' ⟨rfl,rfl⟩
          go_wp2_with fail
          refine HWy.out.mono ?_
          rintro e w' ⟨rfl,rfl⟩
          go_wp2_with (at_builtin;refine wpList_append_word w.heap.size rfl (.tmp 47) (.tmp 49) 23 rfl Tryz.underlying23 _ zs s rfl rfl HO.out HB.out HB.out.size hlz ?_;intro v1 w1 ho1 hb1)
          have HO1:=Lib.hid ho1;have HB1:=Lib.hid hb1
          clear ho1 hb1
          go_wp2
          go_roundw
          case rel=>exact ⟨k+1,zs ++ [s],0,by omega,by go_num,rfl,by omega,HO1.out,HB1.out,hnew⟩
          case measure=>simp [intOf];omega
    · have hdec:=hmax0 k hlt
      obtain rfl:L=k:=by omega
      have hcw:Word cc:=by rcases hcc with rfl | rfl<;>exact ⟨by omega,by omega⟩
      have hval:Hid (val (zs ++ [cc])=val xs+val ys):=by
        obtain ⟨r1,r2,r3⟩:=hr.out
        show _=_
        rw [val_take_all _ _ (by have:=e1.out;omega),val_take_all _ _ (by have:=e2.out;omega)] at r3
        rw [val_append,r1];simp only [val,Int.mul_zero,Int.add_zero];omega
      have hwz:Hid (Words (zs ++ [cc])):=hr.out.2.1.append (Words.nil.cons hcw)
      have hlz2:Hid ((zs ++ [cc]).length≤17592186044415):=by show _≤_;simp;omega
      clear hr ho hbel hcc hcw
      go_wp2_with (at_builtin;refine wpList_append_word w.heap.size rfl (.tmp 51) (.tmp 53) 23 rfl Tryz.underlying23 _ zs cc rfl rfl HO.out HB.out HB.out.size hlz ?_;intro v1 w1 ho1 hb1)
      have HO1:=Lib.hid ho1;have HB1:=Lib.hid hb1
      clear ho1 hb1
      go_wp2_with fail
      refine (norm_calls (HO1.out.nat hlz2.out hwz.out)).mono ?_
      rintro e w2 ⟨v2,rfl,hn2,hb2⟩
      rw [hval.out] at hn2
      have HN2:=Lib.hid hn2;have HB2:=Lib.hid hb2
      clear hn2 hb2
      go_wp2
      go_ret
      exact ⟨_,rfl,HN2.out.mono HB1.out.size,below_then HB1.out HB2.out⟩
set_option maxHeartbeats 3200000 in
set_option maxRecDepth 100000 in
theorem sub3_calls{B B':Nat}{w:World}{v v':Value}{xs ys:List Int}(h:NatAt B w v xs)(h':NatAt B' w v' ys)(hx:xs.length≤17592186044414)(hy:ys.length≤17592186044414)(hle:val ys≤val xs) :
    Calls Tryz.prog 106 #[v,v'] w (RNat w (ws (val xs-val ys))):=by
  obtain ⟨A1,L1,c1,rfl,e1,k1,q1⟩:=h.open
  obtain ⟨A2,L2,c2,rfl,e2,k2,q2⟩:=h'.open
  have b1:L1≤17592186044414:=by have:=e1.out;omega
  have b2:L2≤17592186044414:=by have:=e2.out;omega
  have HX:=Lib.hid h;have HY:=Lib.hid h'
  have wx:Hid (Words xs):=h.words
  have wy:Hid (Words ys):=h'.words
  have HLE:=Lib.hid hle
  clear h h' hx hy hle
  obtain ⟨L,hL⟩:∃ L,Hid (L=max L1 L2):=⟨_,rfl⟩
  have l1:L1≤L:=by have:=hL.out;omega
  have l2:L2≤L:=by have:=hL.out;omega
  have l3:L≤17592186044414:=by have:=hL.out;omega
  have hmax:(max (L1:Int) (L2:Int))=(L:Int):=by have:=hL.out;omega
  have hmax1:∀ k:Nat,k<L→decide ((k:Int)<max (L1:Int) (L2:Int))=true:=fun k hk=>by simp;have:=hL.out;omega
  have hmax0:∀ k:Nat,¬ k<L→decide ((k:Int)<max (L1:Int) (L2:Int))=false:=fun k hk=>by simp;have:=hL.out;omega
  go_enter Tryz.func106,Tryz.ntmps106
  go_wp2
  go_loopw [5,6,7] (fun o c i wr=>∃ (k:Nat) (zs:List Int) (cc:Int),k≤L∧i = .int .i64 k∧c = .int .u64 cc∧(cc=0∨cc=1)∧OwnL wr w.heap.size o zs∧Below w.heap.size w wr∧Hid (zs.length=k∧Words zs∧val zs-wpow k*cc=val (xs.take k)-val (ys.take k))) (fun _ _ i _=>L-(intOf i).toNat)
  case atStart=>exact ⟨0,[],0,by omega,rfl,rfl,by omega,OwnL.nil _ _,Below.refl _ _,rfl,Words.nil,by simp [val]⟩
  case round =>
    obtain ⟨k,zs,cc,hk,rfl,rfl,hcc,ho,hbel,hr⟩:=hrel
    have HO:=Lib.hid ho;have HB:=Lib.hid hbel
    have hlz:zs.length+1≤17592186044415:=by have:=hr.out.1;omega
    by_cases hlt:k<L
    · have hdec:=hmax1 k hlt
      have HWx:Hid (Calls Tryz.prog 102 #[.slice A1 L1 c1,.int .i64 (k:Int)] wr fun e w'=>e = .returned (.int .u64 (nth xs k))∧wr=w'):=word_calls (HX.out.below hbel) (k:Int) k rfl
      have HWy:Hid (Calls Tryz.prog 102 #[.slice A2 L2 c2,.int .i64 (k:Int)] wr fun e w'=>e = .returned (.int .u64 (nth ys k))∧wr=w'):=word_calls (HY.out.below hbel) (k:Int) k rfl
      have wxk:=wx.out.nth k
      have wyk:=wy.out.nth k
      obtain ⟨s,hs⟩:∃ s,s=lo64 (nth xs k-nth ys k-cc):=⟨_,rfl⟩
      have hcar:=sub3_borrow wxk wyk hcc
      have hlh:=lo_hi (nth xs k-nth ys k-cc)
      rw [←hs] at hlh
      have ws:Word s:=by rw [hs];exact lo64_word _
      have hr1:IntKind.u64.wrap (nth xs k-nth ys k)=lo64 (nth xs k-nth ys k):=wrap_lo _
      have hr2:IntKind.u64.wrap (lo64 (nth xs k-nth ys k)-cc)=s:=by
        rw [wrap_lo,hs];unfold lo64;omega
      by_cases hcs:nth xs k<nth ys k
      · have hnew:Hid ((zs ++ [s]).length=k+1∧Words (zs ++ [s])∧val (zs ++ [s])-wpow (k+1)*1=val (xs.take (k+1))-val (ys.take (k+1))):=⟨by simp [hr.out.1],hr.out.2.1.append (Words.nil.cons ws),sub3_next hr.out.1 hr.out.2.2 (by rw [if_pos hcs] at hcar;omega)⟩
        clear hs hlh hcar ws wxk wyk hr ho hbel
        generalize nth xs k=x at *
        generalize nth ys k=y at *
        go_wp2_with fail
        refine HWx.out.mono ?_
        rintro e w' ⟨rfl,rfl⟩
        go_wp2_with fail
        refine HWy.out.mono ?_
        rintro e w' ⟨rfl,rfl⟩
        go_wp2_with (at_builtin;refine wpList_append_word w.heap.size rfl (.tmp 43) (.tmp 45) 23 rfl Tryz.underlying23 _ zs s rfl rfl HO.out HB.out HB.out.size hlz ?_;intro v1 w1 ho1 hb1)
        have HO1:=Lib.hid ho1;have HB1:=Lib.hid hb1
        clear ho1 hb1
        go_wp2
        go_roundw
        case rel=>exact ⟨k+1,zs ++ [s],1,by omega,by go_num,rfl,by omega,HO1.out,HB1.out,hnew⟩
        case measure=>simp [intOf];omega
      · by_cases hce:nth xs k=nth ys k
        · rcases hcc with rfl | rfl
          · have hnew:Hid ((zs ++ [s]).length=k+1∧Words (zs ++ [s])∧val (zs ++ [s])-wpow (k+1)*0=val (xs.take (k+1))-val (ys.take (k+1))):=⟨by simp [hr.out.1],hr.out.2.1.append (Words.nil.cons ws),sub3_next hr.out.1 hr.out.2.2 (by rw [if_neg hcs,if_neg (by omega)] at hcar;omega)⟩
            clear hs hlh hcar ws wxk wyk hr ho hbel
            generalize nth xs k=x at *
            generalize nth ys k=y at *
            have hr3:=hr2;rw [Int.sub_zero] at hr3
            have hb:(x == y)=true:=by simpa using hce
            have HE:=Lib.hid hce;clear hce
            go_wp2_with fail
            refine HWx.out.mono ?_
            rintro e w' ⟨rfl,rfl⟩
            go_wp2_with fail
            refine HWy.out.mono ?_
            rintro e w' ⟨rfl,rfl⟩
            go_wp2_with (at_builtin;refine wpList_append_word w.heap.size rfl (.tmp 43) (.tmp 45) 23 rfl Tryz.underlying23 _ zs s rfl rfl HO.out HB.out HB.out.size hlz ?_;intro v1 w1 ho1 hb1)
            have HO1:=Lib.hid ho1;have HB1:=Lib.hid hb1
            clear ho1 hb1
            go_wp2
            go_roundw
            case rel=>exact ⟨k+1,zs ++ [s],0,by omega,by go_num,rfl,by omega,HO1.out,HB1.out,hnew⟩
            case measure=>simp [intOf];omega
          · have hnew:Hid ((zs ++ [s]).length=k+1∧Words (zs ++ [s])∧val (zs ++ [s])-wpow (k+1)*1=val (xs.take (k+1))-val (ys.take (k+1))):=⟨by simp [hr.out.1],hr.out.2.1.append (Words.nil.cons ws),sub3_next hr.out.1 hr.out.2.2 (by rw [if_neg hcs,if_pos ⟨hce,rfl⟩] at hcar;omega)⟩
            clear hs hlh hcar ws wxk wyk hr ho hbel
            generalize nth xs k=x at *
            generalize nth ys k=y at *
            have hb:(x == y)=true:=by simpa using hce
            have HE:=Lib.hid hce;clear hce
            go_wp2_with fail
            refine HWx.out.mono ?_
            rintro e w' ⟨rfl,rfl⟩
            go_wp2_with fail
            refine HWy.out.mono ?_
            rintro e w' ⟨rfl,rfl⟩
            go_wp2_with (at_builtin;refine wpList_append_word w.heap.size rfl (.tmp 43) (.tmp 45) 23 rfl Tryz.underlying23 _ zs s rfl rfl HO.out HB.out HB.out.size hlz ?_;intro v1 w1 ho1 hb1)
            have HO1:=Lib.hid ho1;have HB1:=Lib.hid hb1
            clear ho1 hb1
            go_wp2
            go_roundw
            case rel=>exact ⟨k+1,zs ++ [s],1,by omega,by go_num,rfl,by omega,HO1.out,HB1.out,hnew⟩
            case measure=>simp [intOf];omega
        · have hnew:Hid ((zs ++ [s]).length=k+1∧Words (zs ++ [s])∧val (zs ++ [s])-wpow (k+1)*0=val (xs.take (k+1))-val (ys.take (k+1))):=⟨by simp [hr.out.1],hr.out.2.1.append (Words.nil.cons ws),sub3_next hr.out.1 hr.out.2.2 (by rw [if_neg hcs,if_neg (fun h=>hce h.1)] at hcar;omega)⟩
          clear hs hlh hcar ws wxk wyk hr ho hbel
          generalize nth xs k=x at *
          generalize nth ys k=y at *
          have hb:(x == y)=false:=by simpa using hce
          go_wp2_with fail
          refine HWx.out.mono ?_
          rintro e w' ⟨rfl,rfl⟩
          go_wp2_with fail
          refine HWy.out.mono ?_
          rintro e w' ⟨rfl,rfl⟩
          go_wp2_with (at_builtin;refine wpList_append_word w.heap.size rfl (.tmp 43) (.tmp 45) 23 rfl Tryz.underlying23 _ zs s rfl rfl HO.out HB.out HB.out.size hlz ?_;intro v1 w1 ho1 hb1)
          have HO1:=Lib.hid ho1;have HB1:=Lib.hid hb1
          clear ho1 hb1
          go_wp2
          go_roundw
          case rel=>exact ⟨k+1,zs ++ [s],0,by omega,by go_num,rfl,by omega,HO1.out,HB1.out,hnew⟩
          case measure=>simp [intOf];omega
    · have hdec:=hmax0 k hlt
      obtain rfl:L=k:=by omega
      have hval:Hid (val zs=val xs-val ys):=by
        obtain ⟨r1,r2,r3⟩:=hr.out
        show _=_
        rw [val_take_all _ _ (by have:=e1.out;omega),val_take_all _ _ (by have:=e2.out;omega)] at r3
        have z1:=val_lt r2
        rw [r1] at z1
        have:=HLE.out
        rcases hcc with rfl | rfl<;>omega
      have hwz:Hid (Words zs):=hr.out.2.1
      clear hr ho hbel hcc
      go_wp2_with fail
      refine (norm_calls (HO.out.nat (by omega) hwz.out)).mono ?_
      rintro e w2 ⟨v2,rfl,hn2,hb2⟩
      rw [hval.out] at hn2
      have HN2:=Lib.hid hn2;have HB2:=Lib.hid hb2
      clear hn2 hb2
      go_wp2
      go_ret
      exact ⟨_,rfl,HN2.out.mono HB.out.size,below_then HB.out HB2.out⟩
theorem blen_small{xs:List Int}(hw:Words xs)(hl:xs.length≤17592186044415):blen (val xs)≤1125899906842560:=by
  have h1:=val_lt hw
  rw [wpow_eq] at h1
  have:=blen_le h1
  omega
set_option maxHeartbeats 800000 in
theorem len3_calls{B:Nat}{w:World}{v:Value}{xs:List Int}(h:NatAt B w v xs):Calls Tryz.prog 100 #[v] w (RVal w (.int .i64 (blen (val xs)))):=by
  have hv:=val_nonneg h.words
  have hbs:Hid (blen (val xs)≤1125899906842560):=blen_small h.words h.len
  go_enter Tryz.func100,Tryz.ntmps100
  go_wp2_with fail
  refine (norm_calls h).mono ?_
  rintro e w1 ⟨v1,rfl,hn,hb⟩
  have HB:=Lib.hid hb
  clear hb h
  by_cases hx:ws (val xs) = []
  · obtain ⟨A,c,rfl,hc⟩:=hn.open0 hx
    have hz:Hid (blen (val xs)=0):=by show _=_;rw [(ws_eq_nil hv).1 hx];rfl
    clear hx hn
    go_wp2
    go_ret
    rw [hz.out];exact ⟨rfl,HB.out⟩
  · have hp:0<(ws (val xs)).length:=List.length_pos_iff.2 hx
    obtain ⟨g,o,m,c,rfl,hm,hc,hcap,hlen0,hB,hg,hcell⟩:=hn.open1 hp
    have hw:Word (nth (ws (val xs)) m):=hn.words.nth m
    have hl:Hid (blen (val xs)=64*m+blen (nth (ws (val xs)) m)):=by
      show _=_
      rw [blen_last (ws_pos_of hp),hm.out,Nat.add_sub_cancel]
    have hcm:=hcell m (by omega)
    have hm0:(64:Int)*m≤1125899906842560:=by have:=hl.out;have:=hbs.out;omega
    have hxw1:=hw.1;have hxw2:=hw.2
    have hxw3:blen (nth (ws (val xs)) m)≤64:=blen_le (by omega)
    clear hcell hn hv hx hp hw
    generalize nth (ws (val xs)) m=x at *
    go_wp2
    go_loop [3,4] (fun n u=>∃ (k:Nat) (y:Int),0≤y∧y<18446744073709551616∧u = .int .u64 y∧n = .int .i64 (64*(m:Int)+(k:Int))∧k+blen y≤64∧Hid (k+blen y=blen x)) (fun _ u=>(intOf u).toNat)
    case atStart=>exact ⟨0,x,by omega,by omega,rfl,by go_num,by omega,by show _=_;omega⟩
    case round =>
      obtain ⟨k,y,hy0,hy1,rfl,rfl,hk,hr⟩:=hrel
      by_cases h0:0<y
      · have hbl:=blen_half h0
        have hr':Hid (k+1+blen (y/2)=blen x):=by show _=_;have:=hr.out;omega
        go_wp2
        go_round
        case rel=>exact ⟨k+1,y/2,by omega,by omega,rfl,by go_num,by omega,hr'⟩
        case measure=>simp [intOf];omega
      · have hr':Hid (blen (val xs)=64*m+k):=by
          show _=_
          rw [hl.out];have:=hr.out;rw [blen_nonpos (n:=y) (by omega)] at this;omega
        clear hr
        go_wp2
        go_ret
        refine ⟨?_,HB.out⟩
        rw [hr'.out,show ((64*m+k:Nat):Int)=64*(m:Int)+(k:Int) from by omega]
        rfl
def bitB(n:Int)(k:Nat):Bool:=decide (n/2^k % 2=1)
theorem bit_word{X:List Int}(hX:Words X){q r k:Nat}(hr:r<64)(hk:k=64*q+r):val X/2^k % 2=nth X q/2^r % 2:=by
  subst hk
  by_cases hq:q≤X.length
  · have e:=shr_val (r:=r) (n:=((64*q+r:Nat):Int)) hX hq (by omega)
    rw [Int.toNat_natCast] at e
    rw [←e]
    have hn:nth X q=nth (X.drop q) 0:=by rw [nth_drop];rfl
    rw [hn]
    generalize X.drop q=Y
    cases Y with
    | nil=>simp [val,nth]
    | cons y ys =>
      rw [nth_cons_zero,val_cons]
      have e:(18446744073709551616:Int)=2^r*(2*2^(63-r)):=by
        have:(18446744073709551616:Int)=2^64:=by decide
        rw [this,show 64=r+((63-r)+1) from by omega,Int.pow_add,Int.pow_succ];grind
      have p:=two_pow_pos r
      rw [e,Int.mul_assoc,Int.add_mul_ediv_left _ _ (by omega)]
      generalize y/2^r=a
      generalize (2:Int)^(63-r)=b
      rw [Int.mul_assoc,Int.add_mul_emod_self_left]
  · rw [nth_ge (by omega),show 64*q+r=((64*q+r:Nat):Int).toNat from rfl,val_shr_zero (q:=q) hX (by omega) (by omega)];simp
theorem bitB_low{n:Int}(h:0<n){k:Nat}(hk:k≤tz n):bitB n k=decide (k=tz n):=by
  obtain ⟨m,hm,e⟩:=tz_spec h
  unfold bitB
  have p:=two_pow_pos k
  obtain ⟨d,hd⟩:∃ d,tz n=k+d:=⟨tz n-k,by omega⟩
  have e2:n/2^k=2^d*(2*m+1):=by
    rw [e,hd,Int.pow_add,Int.mul_assoc,Int.mul_ediv_cancel_left _ (by omega)]
  rw [e2]
  cases d with
  | zero=>simp [hd]
  | succ d =>
    rw [Int.pow_succ,Int.mul_comm (2^d) 2,Int.mul_assoc,Int.mul_emod_right,hd]
    simp
set_option maxRecDepth 100000 in
set_option maxHeartbeats 400000 in
theorem bit_calls{B:Nat}{w:World}{v:Value}{xs:List Int}(h:NatAt B w v xs)(i:Int)(q r k:Nat)(hk:i=(k:Int))(him:i≤9223372036854775807)(hq:i/64=(q:Int))(hr:i % 64=(r:Int)) :
    Calls Tryz.prog 101 #[v,.int .i64 i] w fun e w'=>e = .returned (.bool (bitB (val xs) k))∧w=w':=by
  have hi0:0≤i:=by omega
  have hr':(r:Int)<64:=by omega
  have hres:Hid (bitB (val xs) k=((nth xs q/2^r).tmod 2 == 1)):=by
    show _=_
    unfold bitB
    rw [Int.tmod_eq_emod_of_nonneg (Int.ediv_nonneg (h.words.nth q).1 (by have:=two_pow_pos r;omega))]
    rw [bit_word h.words (q:=q) (r:=r) (by omega) (by omega)]
    rw [Bool.eq_iff_iff];simp
  have htd:i.tdiv 64=(q:Int):=by rw [Int.tdiv_eq_ediv_of_nonneg hi0];exact hq
  have htm:i.tmod 64=(r:Int):=by rw [Int.tmod_eq_emod_of_nonneg hi0];exact hr
  have hW:=h.words.nth q
  have hw0:=hW.1;have hw1:=hW.2
  clear hW hk
  go_enter Tryz.func101,Tryz.ntmps101
  go_wp2_with (simp only [htd])
  refine (word_calls h _ q rfl).mono ?_
  rintro e w' ⟨rfl,rfl⟩
  generalize nth xs q=y at *
  go_wp2_with (simp only)
  go_ret
  rw [hres.out]
  exact ⟨rfl,rfl⟩
set_option maxHeartbeats 400000 in
theorem low3_calls{B:Nat}{w:World}{v:Value}{xs:List Int}(h:NatAt B w v xs):Calls Tryz.prog 63 #[v] w (RVal w (.int .i64 (tz (val xs)))):=by
  have hv:=val_nonneg h.words
  have hbs:blen (val xs)≤1125899906842560:=blen_small h.words h.len
  have HN:=Lib.hid h
  clear h
  go_enter Tryz.func63,Tryz.ntmps63
  go_wp2_with fail
  refine (len3_calls HN.out).mono ?_
  rintro e w1 ⟨rfl,hb⟩
  have HB:=Lib.hid hb
  clear hb
  by_cases hx:val xs=0
  · have hz:Hid (tz (val xs)=0):=by show _=_;rw [hx,tz_zero]
    have hz2:blen (val xs)=0:=by rw [hx];rfl
    clear hx
    go_wp2
    go_ret
    rw [hz.out];exact ⟨rfl,HB.out⟩
  · have hp:Hid (0<val xs):=by show _<_;omega
    have hz2:=blen_pos hp.out
    have ht:=tz_lt_blen hp.out
    have hz3:((blen (val xs):Int) == 0)=false:=by simp;omega
    clear hx
    go_wp2
    go_loop [3] (fun i=>∃ k:Nat,k≤tz (val xs)∧i = .int .i64 k) (fun i=>tz (val xs)-(intOf i).toNat)
    case atStart=>exact ⟨0,by omega,rfl⟩
    case round =>
      obtain ⟨k,hk,rfl⟩:=hrel
      have hbl:=Lib.hid (bitB_low hp.out hk)
      by_cases hlt:k<tz (val xs)
      · have hf:bitB (val xs) k=false:=by rw [hbl.out];simp;omega
        go_wp2_with fail
        refine (bit_calls (HN.out.below HB.out) (k:Int) (k/64) (k % 64) k rfl (by omega) (by omega) (by omega)).mono ?_
        rintro e w' ⟨he,rfl⟩
        rw [hf] at he
        subst he
        go_wp2
        go_round
        case rel=>exact ⟨k+1,by omega,by go_num⟩
        case measure=>simp [intOf];omega
      · obtain rfl:k=tz (val xs):=by omega
        have hf:bitB (val xs) (tz (val xs))=true:=by rw [hbl.out];simp
        go_wp2_with fail
        refine (bit_calls (HN.out.below HB.out) ((tz (val xs):Nat):Int) (tz (val xs)/64) (tz (val xs) % 64) _ rfl (by omega) (by omega) (by omega)).mono ?_
        rintro e w' ⟨he,rfl⟩
        rw [hf] at he
        subst he
        go_wp2
        go_ret
        exact ⟨rfl,HB.out⟩
theorem nth_pad{xs:List Int}{n j:Nat}:nth (xs ++ List.replicate n 0) j=nth xs j:=by
  by_cases hj:j<xs.length
  · exact nth_append_left hj
  · rw [nth_append_right (by omega),nth_zeros,nth_ge (by omega)]
theorem val_pad{xs:List Int}{n:Nat}:val (xs ++ List.replicate n 0)=val xs:=by rw [val_append,val_zeros];simp
theorem cmp_at'{xs ys:List Int}{k:Nat}(hx:Words xs)(hy:Words ys)(he:∀ j,k<j→nth xs j=nth ys j)(hlt:nth xs k<nth ys k):val xs<val ys:=by
  have:=cmp_at (xs:=xs ++ List.replicate (ys.length+k+1) 0) (ys:=ys ++ List.replicate (xs.length+k+1) 0) (k:=k) (hx.append (Words.zeros _)) (hy.append (Words.zeros _)) (by simp;omega) (by simp;omega) (fun j hj=>by rw [nth_pad,nth_pad,he j hj]) (by rw [nth_pad,nth_pad];exact hlt)
  rwa [val_pad,val_pad] at this
theorem val_ext{xs ys:List Int}(he:∀ j,nth xs j=nth ys j):val xs=val ys:=by
  have:=ext_nth (xs:=xs ++ List.replicate ys.length 0) (ys:=ys ++ List.replicate xs.length 0) (by simp;omega) (fun j=>by rw [nth_pad,nth_pad,he j])
  rw [←val_pad (xs:=xs) (n:=ys.length),this,val_pad]
set_option maxHeartbeats 800000 in
theorem cmp3_calls{B B':Nat}{w:World}{v v':Value}{xs ys:List Int}(h:NatAt B w v xs)(h':NatAt B' w v' ys) :
    Calls Tryz.prog 105 #[v,v'] w fun e w'=>e = .returned (.int .i64 (cmpI (val xs) (val ys)))∧w=w':=by
  obtain ⟨A1,L1,c1,rfl,e1,k1,q1⟩:=h.open
  obtain ⟨A2,L2,c2,rfl,e2,k2,q2⟩:=h'.open
  have b1:L1≤17592186044415:=by have:=e1.out;have:=h.len;omega
  have b2:L2≤17592186044415:=by have:=e2.out;have:=h'.len;omega
  have HX:=Lib.hid h;have HY:=Lib.hid h'
  clear h h'
  obtain ⟨L,hL⟩:∃ L,Hid (L=max L1 L2):=⟨_,rfl⟩
  have l1:L1≤L:=by have:=hL.out;omega
  have l2:L2≤L:=by have:=hL.out;omega
  have l3:L≤17592186044415:=by have:=hL.out;omega
  have hmax:(max (L1:Int) (L2:Int))=(L:Int):=by have:=hL.out;omega
  go_enter Tryz.func105,Tryz.ntmps105
  go_wp2
  go_loop [5] (fun i=>∃ k:Nat,k≤L∧i = .int .i64 ((k:Int)-1)∧Hid (∀ j,k≤j→nth xs j=nth ys j)) (fun i=>(intOf i+1).toNat)
  case atStart =>
    refine ⟨L,by omega,by go_num,fun j hj=>?_⟩
    rw [nth_ge (by have:=e1.out;omega),nth_ge (by have:=e2.out;omega)]
  case round =>
    obtain ⟨k,hk,rfl,hr⟩:=hrel
    by_cases h0:0<k
    · obtain ⟨j,rfl⟩:∃ j,k=j+1:=⟨k-1,by omega⟩
      have e0:((j+1:Nat):Int)-1=(j:Int):=by omega
      rw [e0]
      clear e0
      by_cases hlt:nth xs j<nth ys j
      · have hc:Hid (cmpI (val xs) (val ys) = -1):=cmpI_of_lt (cmp_at' HX.out.words HY.out.words (fun i hi=>hr.out i (by omega)) hlt)
        go_wp2_with fail
        refine (word_calls HX.out _ j rfl).mono ?_
        rintro e w' ⟨rfl,rfl⟩
        go_wp2_with fail
        refine (word_calls HY.out _ j rfl).mono ?_
        rintro e w' ⟨rfl,rfl⟩
        go_wp2
        go_ret
        rw [hc.out];exact ⟨rfl,rfl⟩
      · by_cases hgt:nth ys j<nth xs j
        · have hc:Hid (cmpI (val xs) (val ys)=1):=cmpI_of_gt (cmp_at' HY.out.words HX.out.words (fun i hi=>(hr.out i (by omega)).symm) hgt)
          go_wp2_with fail
          refine (word_calls HX.out _ j rfl).mono ?_
          rintro e w' ⟨rfl,rfl⟩
          go_wp2_with fail
          refine (word_calls HY.out _ j rfl).mono ?_
          rintro e w' ⟨rfl,rfl⟩
          go_wp2
          go_ret
          rw [hc.out];exact ⟨rfl,rfl⟩
        · have hr':Hid (∀ i,j≤i→nth xs i=nth ys i):=fun i hi=>by
            by_cases e:i=j
            · subst e;omega
            · exact hr.out i (by omega)
          clear hr
          go_wp2_with fail
          refine (word_calls HX.out _ j rfl).mono ?_
          rintro e w' ⟨rfl,rfl⟩
          go_wp2_with fail
          refine (word_calls HY.out _ j rfl).mono ?_
          rintro e w' ⟨rfl,rfl⟩
          go_wp2
          go_round
          case rel=>exact ⟨j,by omega,by go_num,hr'⟩
          case measure=>simp [intOf]
    · obtain rfl:k=0:=by omega
      have hc:Hid (cmpI (val xs) (val ys)=0):=by
        show _=_
        rw [val_ext (fun j=>hr.out j (Nat.zero_le _)),cmpI_self]
      clear hr
      go_wp2
      go_ret
      rw [hc.out];exact ⟨rfl,rfl⟩
set_option maxHeartbeats 800000 in
theorem same3_calls{B B':Nat}{w:World}{v v':Value}{xs ys:List Int}(h:NatAt B w v xs)(h':NatAt B' w v' ys) :
    Calls Tryz.prog 10 #[v,v'] w (RVal w (.bool (decide (xs=ys)))):=by
  obtain ⟨A1,L1,c1,g1,o1,rfl,a1,k1,q1,l1,hg1,hc1,e1,wx⟩:=h.sub
  obtain ⟨A2,L2,c2,g2,o2,rfl,a2,k2,q2,l2,hg2,hc2,e2,wy⟩:=h'.sub
  clear h h'
  by_cases hne:L1=L2
  · subst hne
    go_enter Tryz.func10,Tryz.ntmps10
    go_wp2
    go_loopw [13] (fun i wr=>∃ k:Nat,k≤L1∧i = .int .i64 k∧(∃ n,wr=w.drewN n)∧Hid (∀ j,j<k→nth xs j=nth ys j)) (fun i _=>L1-(intOf i).toNat)
    case atStart=>exact ⟨0,by omega,rfl,⟨0,rfl⟩,fun j hj=>by omega⟩
    case round =>
      obtain ⟨k,hk,rfl,⟨n,rfl⟩,hr⟩:=hrel
      by_cases hlt:k<L1
      · obtain rfl:=a1 (by omega)
        obtain rfl:=a2 (by omega)
        have hxk:=hc1 k hlt
        have hyk:=hc2 k hlt
        by_cases heq:nth xs k=nth ys k
        · have hb:(nth xs k != nth ys k)=false:=by simpa using heq
          have hr':Hid (∀ j,j<k+1→nth xs j=nth ys j):=fun j hj=>by
            by_cases e:j=k
            · subst e;exact heq
            · exact hr.out j (by omega)
          clear heq hr
          go_wp2
          go_quiet (fail)
          go_wp2
          go_roundw
          case rel=>exact ⟨k+1,by omega,by go_num,⟨_,rfl⟩,hr'⟩
          case measure=>simp [intOf];omega
        · have hb:(nth xs k != nth ys k)=true:=by simpa using heq
          have hd:Hid (decide (xs=ys)=false):=by show _=_;simp;intro e;exact heq (by rw [e])
          clear heq hr
          go_wp2
          go_quiet (fail)
          go_wp2
          go_ret
          rw [hd.out];exact ⟨rfl,below_draws (below_draws (Below.refl _ _) _) _⟩
      · obtain rfl:L1=k:=by omega
        have hd:Hid (decide (xs=ys)=true):=by
          show _=_
          simp
          refine ext_nth (by rw [e1.out,e2.out]) (fun j=>?_)
          by_cases hj:j<L1
          · exact hr.out j hj
          · rw [nth_ge (by rw [e1.out];omega),nth_ge (by rw [e2.out];omega)]
        clear hr
        go_wp2
        go_ret
        rw [hd.out];exact ⟨rfl,below_draws (Below.refl _ _) _⟩
  · have hd:Hid (decide (xs=ys)=false):=by
      show _=_
      simp;intro e;apply hne;rw [←e1.out,←e2.out,e]
    have hb:((L1:Int) != (L2:Int))=true:=by simp;omega
    go_enter Tryz.func10,Tryz.ntmps10
    go_wp2
    go_ret
    rw [hd.out];exact ⟨rfl,Below.refl _ _⟩
theorem times_key{a b c d:Int}(ha:0≤a∧a<4294967296)(hb:0≤b∧b<4294967296)(hc:0≤c∧c<4294967296)(hd:0≤d∧d<4294967296) :
    ∃ l m o x y,0≤l∧l<18446744073709551616∧0≤m∧m<18446744073709551616∧0≤o∧o<18446744073709551616∧0≤x∧x<18446744073709551616∧0≤y∧y<18446744073709551616 ∧
      a*c=l∧b*c+l/4294967296=m∧a*d+m % 4294967296=o∧l % 4294967296+o % 4294967296*4294967296=x∧b*d+m/4294967296+o/4294967296=y ∧
      b*c<18446744073709551616∧a*d<18446744073709551616∧b*d+m/4294967296<18446744073709551616∧0≤b*c∧0≤a*d∧0≤b*d ∧
      x+18446744073709551616*y=(a+4294967296*b)*(c+4294967296*d):=by
  have m1:∀ {p q:Int},0≤p∧p<4294967296→0≤q∧q<4294967296→0≤p*q∧p*q≤18446744065119617025:=fun {p q} hp hq =>
    ⟨Int.mul_nonneg hp.1 hq.1,by have:=Int.mul_le_mul (show p≤4294967295 by omega) (show q≤4294967295 by omega) hq.1 (by omega);omega⟩
  have h1:=m1 ha hc
  have h2:=m1 hb hc
  have h3:=m1 ha hd
  have h4:=m1 hb hd
  have e:(a+4294967296*b)*(c+4294967296*d)=a*c+4294967296*(b*c)+4294967296*(a*d)+18446744073709551616*(b*d):=by grind
  rw [e]
  generalize a*c=p at *
  generalize b*c=q at *
  generalize a*d=r at *
  generalize b*d=s at *
  refine ⟨p,q+p/4294967296,r+(q+p/4294967296) % 4294967296,_,_,?_,?_,?_,?_,?_,?_,?_,?_,?_,?_,rfl,rfl,rfl,rfl,rfl,?_,?_,?_,?_,?_,?_,?_⟩<;>omega
set_option maxHeartbeats 800000 in
theorem times_calls{x y:Int}(w:World)(hx:Word x)(hy:Word y) :
    Calls Tryz.prog 128 #[.int .u64 x,.int .u64 y] w fun e w'=>e = .returned (.tuple #[.int .u64 (lo64 (x*y)),.int .u64 (hi64 (x*y))])∧w=w':=by
  obtain ⟨a,hxa⟩:∃ a,x % 4294967296=a:=⟨_,rfl⟩
  obtain ⟨b,hxb⟩:∃ a,x/4294967296=a:=⟨_,rfl⟩
  obtain ⟨c,hyc⟩:∃ a,y % 4294967296=a:=⟨_,rfl⟩
  obtain ⟨d,hyd⟩:∃ a,y/4294967296=a:=⟨_,rfl⟩
  have hx0:=hx.1;have hx1:=hx.2;have hy0:=hy.1;have hy1:=hy.2
  have ha:0≤a∧a<4294967296:=by omega
  have hb:0≤b∧b<4294967296:=by omega
  have hc:0≤c∧c<4294967296:=by omega
  have hd:0≤d∧d<4294967296:=by omega
  obtain ⟨l,m,o,X,Y,hl0,hl1,hm0,hm1,ho0,ho1,hX0,hX1,hY0,hY1,E1,E2,E3,E4,E5,hq1,hq2,hq3,hz1,hz2,hz3,hfin⟩:=times_key ha hb hc hd
  have hprod:x*y=X+18446744073709551616*Y:=by
    rw [hfin,show a+4294967296*b=x from by omega,show c+4294967296*d=y from by omega]
  have hlo:Hid (lo64 (x*y)=X):=by show _=_;rw [hprod];unfold lo64;omega
  have hhi:Hid (hi64 (x*y)=Y):=by show _=_;rw [hprod];unfold hi64;omega
  have f1:IntKind.u64.wrap (a*c)=l:=by rw [E1,IntKind.wrap_u64];omega
  have f2:IntKind.u64.wrap (b*c)=b*c:=by rw [IntKind.wrap_u64];omega
  have f3:IntKind.u64.wrap (b*c+l/4294967296)=m:=by rw [E2,IntKind.wrap_u64];omega
  have f4:IntKind.u64.wrap (a*d)=a*d:=by rw [IntKind.wrap_u64];omega
  have f5:IntKind.u64.wrap (a*d+m % 4294967296)=o:=by rw [E3,IntKind.wrap_u64];omega
  have f6:IntKind.u64.wrap (b*d)=b*d:=by rw [IntKind.wrap_u64];omega
  have f7:IntKind.u64.wrap (l % 4294967296+o % 4294967296*4294967296)=X:=by rw [E4,IntKind.wrap_u64];omega
  have f8:IntKind.u64.wrap (b*d+m/4294967296+o/4294967296)=Y:=by rw [E5,IntKind.wrap_u64];omega
  have f9:IntKind.u64.wrap (b*d+m/4294967296)=b*d+m/4294967296:=by rw [IntKind.wrap_u64];omega
  have f10:IntKind.u64.wrap (o % 4294967296*4294967296)=o % 4294967296*4294967296:=by rw [IntKind.wrap_u64];omega
  clear hprod hfin E1 E2 E3 E4 E5 hq1 hq2 hq3 hz1 hz2 hz3 hx hy ha hb hc hd hX0 hX1 hY0 hY1
  go_enter Tryz.func128,Tryz.ntmps128
  go_wp2_with (simp only [hxa,hxb,hyc,hyd])
  go_ret2
  rw [hlo.out,hhi.out]
  exact ⟨rfl,rfl⟩
theorem or_disjoint'{a b c:Int}{r:Nat}(ha0:0≤a)(ha:a<2^r)(hb:b=2^r*c)(hc:0≤c)(hb64:b<18446744073709551616)(hr:r≤64):bits BinOp.or IntKind.u64 b a=a+b:=by
  have p:=two_pow_pos r
  have hb0:0≤b:=by rw [hb];exact Int.mul_nonneg (by omega) hc
  have ha64:a<18446744073709551616:=by
    have:=two_pow_le hr
    have e:(2:Int)^64=18446744073709551616:=by decide
    omega
  rw [←or_disjoint ha0 ha hb hc hb64 hr]
  obtain ⟨a,rfl⟩:=Int.eq_ofNat_of_zero_le ha0
  obtain ⟨b,rfl⟩:=Int.eq_ofNat_of_zero_le hb0
  rw [bits_or_u64_nat a b (by omega) (by omega),bits_or_u64_nat b a (by omega) (by omega),Nat.or_comm]
theorem shl3_step{zs X:List Int}{q k r:Nat}{cc:Int}(hr:r<64)(hX:Word (nth X k))(hl:zs.length=q+k)(hc0:0≤cc)(hc1:cc<2^r)
    (hv:val zs+wpow (q+k)*cc=wpow q*(val (X.take k)*2^r)) :
    ∃ V,bits BinOp.or IntKind.u64 (IntKind.u64.wrap (nth X k*2^r)) cc=V∧Word V∧0≤nth X k/2^(64-r)∧nth X k/2^(64-r)<2^r ∧
      val (zs ++ [V])+wpow (q+(k+1))*(nth X k/2^(64-r))=wpow q*(val (X.take (k+1))*2^r):=by
  obtain ⟨⟨c,hcc,hlo⟩,s2,s3,s4⟩:=shl_word hX hr
  have wl:=lo64_word (nth X k*2^r)
  have p:=two_pow_pos r
  refine ⟨_,rfl,?_⟩
  rw [wrap_lo,or_disjoint' hc0 hc1 hlo hcc wl.2 (by omega)]
  refine ⟨⟨by have:=wl.1;omega,?_⟩,s4,s3,?_⟩
  · have e:(18446744073709551616:Int)=2^r*2^(64-r):=by
      rw [←Int.pow_add,show r+(64-r)=64 from by omega];decide
    have hb:=wl.2
    rw [hlo,e] at hb
    have:c<2^(64-r):=Int.lt_of_mul_lt_mul_left hb (by omega)
    have:=imL (show c+1≤2^(64-r) by omega) (show 0≤(2:Int)^r by omega)
    rw [hlo,e];rw [Int.mul_add] at this;omega
  · rw [val_append,hl,val_take_more,wpow_add q (k+1),wpow_succ,wpow_add q k]
    rw [wpow_add q k] at hv
    simp only [val,Int.mul_zero,Int.add_zero]
    generalize wpow q=A at *
    generalize wpow k=B at *
    generalize val (X.take k)=a at *
    have:A*B*(lo64 (nth X k*2^r)+18446744073709551616*(nth X k/2^(64-r)))=A*B*(nth X k*2^r):=by rw [s2]
    generalize nth X k/2^(64-r)=hi at *
    generalize lo64 (nth X k*2^r)=lo at *
    grind
set_option maxRecDepth 100000 in
set_option maxHeartbeats 1600000 in
theorem shl3_calls{B:Nat}{w:World}{v:Value}{xs:List Int}(n:Int)(h:NatAt B w v xs)(hn0:0≤n)(hn:n≤1099511627776)(hl:xs.length≤8796093022208) :
    Calls Tryz.prog 103 #[v,.int .i64 n] w (RNat w (ws (val xs*2^n.toNat))):=by
  obtain ⟨q,hq⟩:∃ q:Nat,n/64=(q:Int):=⟨(n/64).toNat,by omega⟩
  obtain ⟨r,hr⟩:∃ q:Nat,n % 64=(q:Int):=⟨(n % 64).toNat,by omega⟩
  have htd:n.tdiv 64=(q:Int):=by rw [Int.tdiv_eq_ediv_of_nonneg hn0];exact hq
  have htm:n.tmod 64=(r:Int):=by rw [Int.tmod_eq_emod_of_nonneg hn0];exact hr
  have hq':(q:Int)≤17179869184:=by omega
  have hr':(r:Int)<64:=by omega
  have hnq:Hid (n.toNat=64*q+r):=by show _=_;omega
  obtain ⟨A,L,c,g,o,rfl,ha,hk,hq1,hL,hg,hc,e,wx⟩:=h.sub
  have hL':L≤8796093022208:=by have:=e.out;omega
  clear h hl hq hr
  have hmk:=make_run 23 Tryz.underlying23 q (by omega)
  go_enter Tryz.func103,Tryz.ntmps103
  go_wp2_with (simp only [htd,htm])
  go_loopw [5,7,18] (fun o c i wr=>∃ (k:Nat) (zs:List Int) (cc:Int),k≤L∧i = .int .i64 k∧c = .int .u64 cc∧OwnL wr w.heap.size o zs∧Below w.heap.size w wr∧Hid (zs.length=q+k∧Words zs∧0≤cc∧cc<2^r∧val zs+wpow (q+k)*cc=wpow q*(val (xs.take k)*2^r))) (fun _ _ i _=>L-(intOf i).toNat)
  case atStart =>
    refine ⟨0,List.replicate q 0,0,by omega,rfl,rfl,OwnL.row (RowAt.made _ _) (Nat.le_refl _) (by simp) (by omega),below_also _ _,by simp,Words.zeros _,by omega,two_pow_pos r,?_⟩
    rw [val_zeros];simp [val]
  case round =>
    obtain ⟨k,zs,cc,hk',rfl,rfl,ho,hbel,hrr⟩:=hrel
    obtain ⟨r1,r2,r3,r4,r5⟩:=hrr.out
    have HO:=Lib.hid ho;have HB:=Lib.hid hbel
    have hlz:zs.length+1≤17592186044415:=by omega
    have hlz2:Hid (zs.length+1≤17592186044415):=hlz
    by_cases hlt:k<L
    · obtain rfl:=ha (by omega)
      have hxk:wr.cell? ⟨g,o+k,none⟩=some (.int .u64 (nth xs k)):=((bcell hbel).1 _ _ (hg (by omega))).trans (hc k hlt)
      have wxk:=wx.out.nth k
      by_cases hr0:0<r
      · have hr1:(0:Int)<(r:Int):=by omega
        obtain ⟨V,hV,wV,s3,s4,s5⟩:=shl3_step (by omega) wxk r1 r3 r4 r5
        have hnew:Hid ((zs ++ [V]).length=q+(k+1)∧Words (zs ++ [V])∧0≤nth xs k/2^(64-r)∧nth xs k/2^(64-r)<2^r∧val (zs ++ [V])+wpow (q+(k+1))*(nth xs k/2^(64-r))=wpow q*(val (xs.take (k+1))*2^r)):=⟨by simp [r1];omega,r2.append (Words.nil.cons wV),s3,s4,s5⟩
        have hx0:=wxk.1;have hx1:=wxk.2
        clear hrr r1 r2 r3 r4 r5 wV s3 s4 s5 ho hbel wxk
        generalize nth xs k=x at *
        go_wp2_with (at_builtin;refine wpList_append_word w.heap.size rfl (.tmp 22) (.tmp 28) 23 rfl Tryz.underlying23 _ zs V rfl rfl HO.out HB.out HB.out.size hlz2.out ?_;intro v1 w1 ho1 hb1)
        have HO1:=Lib.hid ho1;have HB1:=Lib.hid hb1
        clear ho1 hb1
        go_wp2
        go_roundw
        case rel=>exact ⟨k+1,zs ++ [V],_,by omega,by go_num,rfl,HO1.out,HB1.out,hnew⟩
        case measure=>simp [intOf];omega
      · have hr1:¬ ((0:Int)<(r:Int)):=by omega
        obtain ⟨V,hV,wV,s3,s4,s5⟩:=shl3_step (by omega) wxk r1 r3 r4 r5
        have hz:nth xs k/2^(64-r)=0:=by
          rw [show 64-r=64 from by omega]
          exact Int.ediv_eq_zero_of_lt wxk.1 (by have:=wxk.2;have e:(2:Int)^64=18446744073709551616:=by decide
                                                 omega)
        rw [hz] at s3 s4 s5
        have hnew:Hid ((zs ++ [V]).length=q+(k+1)∧Words (zs ++ [V])∧0≤(0:Int)∧(0:Int)<2^r∧val (zs ++ [V])+wpow (q+(k+1))*0=wpow q*(val (xs.take (k+1))*2^r)):=⟨by simp [r1];omega,r2.append (Words.nil.cons wV),s3,s4,s5⟩
        have hx0:=wxk.1;have hx1:=wxk.2
        clear hrr r1 r2 r3 r4 r5 wV s3 s4 s5 ho hbel wxk hz
        generalize nth xs k=x at *
        go_wp2_with (at_builtin;refine wpList_append_word w.heap.size rfl (.tmp 22) (.tmp 28) 23 rfl Tryz.underlying23 _ zs V rfl rfl HO.out HB.out HB.out.size hlz2.out ?_;intro v1 w1 ho1 hb1)
        have HO1:=Lib.hid ho1;have HB1:=Lib.hid hb1
        clear ho1 hb1
        go_wp2
        go_roundw
        case rel=>exact ⟨k+1,zs ++ [V],_,by omega,by go_num,rfl,HO1.out,HB1.out,hnew⟩
        case measure=>simp [intOf];omega
    · obtain rfl:L=k:=by omega
      have hval:Hid (val (zs ++ [cc])=val xs*2^n.toNat):=by
        show _=_
        rw [val_take_all _ _ (by rw [e.out];omega)] at r5
        rw [val_append,r1];simp only [val,Int.mul_zero,Int.add_zero]
        rw [r5,wpow_eq,hnq.out,Int.pow_add];grind
      have hwz:Hid (Words (zs ++ [cc])):=r2.append (Words.nil.cons ⟨r3,by
        have:=two_pow_le (j:=r) (k:=64) (by omega)
        have e:(2:Int)^64=18446744073709551616:=by decide
        omega⟩)
      have hlz3:Hid ((zs ++ [cc]).length≤17592186044415):=by show _≤_;simp;omega
      clear hrr r1 r2 r3 r4 r5 ho hbel
      go_wp2_with (at_builtin;refine wpList_append_word w.heap.size rfl (.tmp 37) (.tmp 39) 23 rfl Tryz.underlying23 _ zs cc rfl rfl HO.out HB.out HB.out.size hlz2.out ?_;intro v1 w1 ho1 hb1)
      have HO1:=Lib.hid ho1;have HB1:=Lib.hid hb1
      clear ho1 hb1
      go_wp2_with fail
      refine (norm_calls (HO1.out.nat hlz3.out hwz.out)).mono ?_
      rintro e w2 ⟨v2,rfl,hn2,hb2⟩
      rw [hval.out] at hn2
      have HN2:=Lib.hid hn2;have HB2:=Lib.hid hb2
      clear hn2 hb2
      go_wp2
      go_ret
      exact ⟨_,rfl,HN2.out.mono HB1.out.size,below_then HB1.out HB2.out⟩
theorem lostB_all{X:List Int}{n:Int}(hX:Words X)(hn:64*(X.length:Int)≤n):lostB (val X) n.toNat=decide (0<blen (val X)):=by
  have h0:=val_nonneg hX
  have h1:=val_lt hX
  rw [wpow_eq] at h1
  have h2:=two_pow_le (j:=64*X.length) (k:=n.toNat) (by omega)
  unfold lostB
  rw [Int.emod_eq_of_lt h0 (by omega),Bool.eq_iff_iff]
  simp only [decide_eq_true_eq]
  have:=blen_zero_iff h0
  omega
theorem lostB_split{X:List Int}{q r:Nat}{n:Int}(hX:Words X)(hq:q≤X.length)(hr:r<64)(hn:n=64*q+r) :
    lostB (val X) n.toNat=(decide (val (X.take q)≠0) || decide (nth X q % 2^r≠0)):=by
  have s:=val_split X q hq
  have a1:=val_lt (hX.take q)
  have a0:=val_nonneg (hX.take q)
  rw [List.length_take,Nat.min_eq_left hq] at a1
  have p:=wpow_pos q
  have pr:=two_pow_pos r
  have en:nth X q=nth (X.drop q) 0:=by rw [nth_drop];rfl
  have e1:val X % 2^n.toNat=val (X.take q)+wpow q*(val (X.drop q) % 2^r):=by
    rw [show n.toNat=64*q+r from by omega,Int.pow_add,←wpow_eq]
    have h2:=Int.mul_ediv_add_emod (val (X.drop q)) (2^r)
    have m0:=Int.emod_nonneg (val (X.drop q)) (show (2:Int)^r≠0 by omega)
    have m1:=Int.emod_lt_of_pos (val (X.drop q)) pr
    have key:val X=val (X.take q)+wpow q*(val (X.drop q) % 2^r)+wpow q*2^r*(val (X.drop q)/2^r):=by
      rw [s]
      conv=>lhs;rw [←h2]
      grind
    rw [key,Int.add_mul_emod_self_left]
    refine Int.emod_eq_of_lt (by have:=Int.mul_nonneg (show 0≤wpow q by omega) m0;omega) ?_
    have:=imL (show val (X.drop q) % 2^r+1≤2^r by omega) (show 0≤wpow q by omega)
    rw [Int.mul_add] at this
    omega
  have e2:val (X.drop q) % 2^r=nth X q % 2^r:=by
    rw [en]
    generalize X.drop q=Y
    cases Y with
    | nil=>simp [nth,val]
    | cons y ys =>
      rw [nth_cons_zero,val_cons]
      have e:(18446744073709551616:Int)=2^r*2^(64-r):=by
        rw [←Int.pow_add,show r+(64-r)=64 from by omega];decide
      rw [e,Int.mul_assoc,Int.add_mul_emod_self_left]
  unfold lostB
  rw [e1,e2,Bool.eq_iff_iff]
  have m0:=Int.emod_nonneg (nth X q) (show (2:Int)^r≠0 by omega)
  generalize nth X q % 2^r=m at *
  simp only [Bool.or_eq_true,decide_eq_true_eq]
  have:=Int.mul_nonneg (show 0≤wpow q by omega) m0
  constructor
  · intro h
    by_cases hm:m=0
    · rw [hm] at h;left;simpa using h
    · exact .inr hm
  · rintro (h | h)
    · omega
    · have:=Int.mul_pos p (show 0<m by omega);omega
theorem lost_word{y:Int}{r:Nat}(_:Word y)(hr0:0<r)(hr:r<64):(IntKind.u64.wrap (y*2^(64-r)) != 0)=decide (y % 2^r≠0):=by
  have p:=two_pow_pos r
  have p2:=two_pow_pos (64-r)
  have e:(18446744073709551616:Int)=2^(64-r)*2^r:=by
    rw [←Int.pow_add,show 64-r+r=64 from by omega];decide
  rw [wrap_lo]
  unfold lo64
  rw [e,Int.mul_comm y,Int.mul_emod_mul_of_pos _ _ p2,Bool.eq_iff_iff]
  have m0:=Int.emod_nonneg y (show (2:Int)^r≠0 by omega)
  generalize y % 2^r=m at *
  simp only [bne_iff_ne,decide_eq_true_eq,ne_eq,Int.mul_eq_zero]
  omega
theorem take_ne{X:List Int}{k:Nat}(hX:Words X):decide (val (X.take (k+1))≠0)=(decide (val (X.take k)≠0) || (nth X k != 0)):=by
  have a0:=val_nonneg (hX.take k)
  have w0:=(hX.nth k).1
  have p:=wpow_pos k
  rw [val_take_more,Bool.eq_iff_iff]
  simp only [Bool.or_eq_true,decide_eq_true_eq,bne_iff_ne]
  have:=Int.mul_nonneg (show 0≤wpow k by omega) w0
  constructor
  · intro h
    by_cases hm:nth X k=0
    · rw [hm] at h;left;simpa using h
    · exact .inr hm
  · rintro (h | h)
    · omega
    · have:=Int.mul_pos p (show 0<nth X k by omega);omega
set_option maxRecDepth 100000 in
set_option maxHeartbeats 3200000 in
theorem shr3_calls{B:Nat}{w:World}{v:Value}{xs:List Int}(n:Int)(h:NatAt B w v xs)(hn0:0≤n)(hn:n≤9007199254740992) :
    Calls Tryz.prog 64 #[v,.int .i64 n] w (RNatB w (ws (val xs/2^n.toNat)) (lostB (val xs) n.toNat)):=by
  obtain ⟨q,hq⟩:∃ q:Nat,n/64=(q:Int):=⟨(n/64).toNat,by omega⟩
  obtain ⟨r,hr⟩:∃ q:Nat,n % 64=(q:Int):=⟨(n % 64).toNat,by omega⟩
  have htd:n.tdiv 64=(q:Int):=by rw [Int.tdiv_eq_ediv_of_nonneg hn0];exact hq
  have htm:n.tmod 64=(r:Int):=by rw [Int.tmod_eq_emod_of_nonneg hn0];exact hr
  have hr':(r:Int)<64:=by omega
  have hnq:Hid (n=64*q+r):=by show _=_;omega
  have HN:=Lib.hid h
  obtain ⟨A,L,c,g,o,rfl,ha,hk,hq1,hL,hg,hc,e,wx⟩:=h.sub
  clear h
  go_enter Tryz.func64,Tryz.ntmps64
  by_cases hbig:64*(L:Int)≤n
  · have hv0:Hid (val xs/2^n.toNat=0):=by
      show _=_
      exact val_shr_zero (q:=L) wx.out (by rw [e.out];omega) hbig
    have hlo:Hid (lostB (val xs) n.toNat=decide (0<blen (val xs))):=lostB_all wx.out (by rw [e.out];exact hbig)
    clear hq hr
    go_wp2_with fail
    refine (len3_calls HN.out).mono ?_
    rintro e' w1 ⟨rfl,hb⟩
    have HB:=Lib.hid hb
    clear hb
    go_wp2
    go_ret2
    exact ⟨_,by rw [hlo.out];rfl,by rw [hv0.out,ws_zero];exact NatAt.nil _ _,HB.out⟩
  · have hqL:q<L:=by omega
    have hqL1:(q:Int)<(L:Int):=by omega
    have hlo:Hid (lostB (val xs) n.toNat=(decide (val (xs.take q)≠0) || decide (nth xs q % 2^r≠0))):=lostB_split wx.out (by rw [e.out];omega) (by omega) hnq.out
    have hvY:Hid (val (xs.drop q)/2^r=val xs/2^n.toNat):=shr_val wx.out (by rw [e.out];omega) hnq.out
    obtain rfl:=ha (by omega)
    have hcq:=hc q hqL
    have hgL:=hg (by omega)
    clear hq hr ha hg
    go_wp2_with (simp only [htd,htm])
    go_loopw [6,26] (fun b i wr=>∃ (k:Nat) (t:Bool),k≤q∧i = .int .i64 k∧b = .bool t∧(∃ n,wr=w.drewN n)∧Hid (t=decide (val (xs.take k)≠0))) (fun _ i _=>q-(intOf i).toNat)
    case atStart=>exact ⟨0,false,by omega,rfl,rfl,⟨0,rfl⟩,by simp [val,Hid]⟩
    case round =>
      obtain ⟨k,t,hk1,rfl,rfl,⟨dn,rfl⟩,ht⟩:=hrel
      by_cases hlt:k<q
      · have hck:=hc k (by omega)
        have hnew:Hid ((t || (nth xs k != 0))=decide (val (xs.take (k+1))≠0)):=by show _=_;rw [take_ne wx.out,ht.out]
        cases t with
        | true =>
          go_wp2
          go_roundw
          case rel=>exact ⟨k+1,true,by omega,by go_num,rfl,⟨_,rfl⟩,by show _=_;simpa using hnew.out⟩
          case measure=>simp [intOf];omega
        | false =>
          have hnew2:Hid ((nth xs k != 0)=decide (val (xs.take (k+1))≠0)):=by show _=_;simpa using hnew.out
          go_wp2
          go_roundw
          case rel=>exact ⟨k+1,_,by omega,by go_num,rfl,⟨_,rfl⟩,hnew2⟩
          case measure=>simp [intOf];omega
      · obtain rfl:q=k:=by omega
        have hlt2:¬ ((q:Int)<(q:Int)):=by omega
        obtain ⟨w0,hw0⟩:∃ w0:World,w.drewN dn=w0:=⟨_,rfl⟩
        have hbel0:Hid (Below w.heap.size w w0):=by show Below _ _ _;rw [←hw0];exact below_draws (Below.refl _ _) _
        have hc0:∀ j,j<L→w0.cell? ⟨g,o+j,none⟩=some (.int .u64 (nth xs j)):=by rw [←hw0];exact hc
        rw [hw0]
        clear hw0 hc hcq
        have wy:Hid (Words (xs.drop q)):=wx.out.drop q
        have hlenY:Hid ((xs.drop q).length=L-q):=by show _=_;rw [List.length_drop,e.out]
        go_wp2_with (simp only [htd,htm])
        go_loopw [10,11] (fun u i wr=>∃ (k:Nat) (zs:List Int),q+k≤L∧i = .int .i64 ((q+k:Nat):Int)∧OwnL wr w.heap.size u zs∧Below w.heap.size w wr∧Hid (zs.length=k∧Words zs∧2^r*val zs+nth (xs.drop q) 0 % 2^r=val ((xs.drop q).take k)+wpow k*(nth (xs.drop q) k % 2^r))) (fun _ i _=>L-(intOf i).toNat)
        case atStart=>exact ⟨0,[],by omega,by go_num,OwnL.nil _ _,hbel0.out,rfl,Words.nil,by simp [val,wpow]⟩
        case round =>
          obtain ⟨k,zs,hk1,rfl,ho,hbel,hrr⟩:=hrel
          obtain ⟨r1,r2,r3⟩:=hrr.out
          have HO:=Lib.hid ho;have HB:=Lib.hid hbel
          by_cases hlt:q+k<L
          · have hlz:Hid (zs.length+1≤17592186044415):=by show _≤_;omega
            have hlt3:((q+k:Nat):Int)<(L:Int):=by omega
            have hyk:wr.cell? ⟨g,o+(q+k),none⟩=some (.int .u64 (nth (xs.drop q) k)):=by rw [nth_drop];exact ((bcell hbel).1 _ _ hgL).trans ((bcell hbel0.out).1 _ _ hgL ▸ hc0 (q+k) hlt)
            have wyk:=wy.out.nth k
            have wyk1:=wy.out.nth (k+1)
            by_cases hr0:0<r
            · have hr1:(0:Int)<(r:Int):=by omega
              obtain ⟨V,hV0,wV,eV⟩:=shr_word wyk wyk1 hr0 (by omega)
              have hV:=hV0.symm
              clear hV0
              have hword:Hid (Calls Tryz.prog 102 #[.slice (some ⟨g,o,none⟩) L c,.int .i64 (((q+k:Nat):Int)+1)] wr fun e w'=>e = .returned (.int .u64 (nth (xs.drop q) (k+1)))∧wr=w'):=by
                rw [nth_drop]
                exact word_calls (HN.out.below hbel) _ (q+(k+1)) (by omega)
              have hnew:Hid ((zs ++ [V]).length=k+1∧Words (zs ++ [V])∧2^r*val (zs ++ [V])+nth (xs.drop q) 0 % 2^r=val ((xs.drop q).take (k+1))+wpow (k+1)*(nth (xs.drop q) (k+1) % 2^r)):=⟨by simp [r1],r2.append (Words.nil.cons wV),shr_next r1 r3 eV⟩
              have hx0:=wyk.1;have hx1:=wyk.2;have hx2:=wyk1.1;have hx3:=wyk1.2
              clear hrr r1 r2 r3 wV eV ho hbel wyk wyk1
              generalize nth (xs.drop q) k=x at *
              obtain ⟨x1,hxx⟩:∃ x1,Hid (nth (xs.drop q) (k+1)=x1):=⟨_,rfl⟩
              rw [hxx.out] at hword hV hx2 hx3
              go_wp2_with fail
              refine hword.out.mono ?_
              rintro e' w' ⟨rfl,rfl⟩
              go_wp2_with (at_builtin;refine wpList_append_word w.heap.size rfl (.tmp 64) (.tmp 66) 23 rfl Tryz.underlying23 _ zs V rfl rfl HO.out HB.out HB.out.size hlz.out ?_;intro v1 w1 ho1 hb1)
              have HO1:=Lib.hid ho1;have HB1:=Lib.hid hb1
              clear ho1 hb1
              go_wp2
              go_roundw
              case rel=>exact ⟨k+1,zs ++ [V],by omega,by go_num,HO1.out,HB1.out,hnew⟩
              case measure=>simp [intOf];omega
            · have hr1:¬ ((0:Int)<(r:Int)):=by omega
              have hrz:Hid (r=0):=by show _=_;omega
              obtain ⟨V,hV⟩:∃ V,nth (xs.drop q) k/2^r=V:=⟨_,rfl⟩
              have hVx:V=nth (xs.drop q) k:=by rw [←hV,hrz.out];simp
              have wV:Word V:=by rw [hVx];exact wyk
              have eV:2^r*V+nth (xs.drop q) k % 2^r=nth (xs.drop q) k+18446744073709551616*(nth (xs.drop q) (k+1) % 2^r):=by rw [hVx,hrz.out];simp
              have hnew:Hid ((zs ++ [V]).length=k+1∧Words (zs ++ [V])∧2^r*val (zs ++ [V])+nth (xs.drop q) 0 % 2^r=val ((xs.drop q).take (k+1))+wpow (k+1)*(nth (xs.drop q) (k+1) % 2^r)):=⟨by simp [r1],r2.append (Words.nil.cons wV),shr_next r1 r3 eV⟩
              have hx0:=wyk.1;have hx1:=wyk.2
              clear hrr r1 r2 r3 wV eV ho hbel wyk wyk1 hVx
              generalize nth (xs.drop q) k=x at *
              go_wp2_with (at_builtin;refine wpList_append_word w.heap.size rfl (.tmp 64) (.tmp 66) 23 rfl Tryz.underlying23 _ zs V rfl rfl HO.out HB.out HB.out.size hlz.out ?_;intro v1 w1 ho1 hb1)
              have HO1:=Lib.hid ho1;have HB1:=Lib.hid hb1
              clear ho1 hb1
              go_wp2
              go_roundw
              case rel=>exact ⟨k+1,zs ++ [V],by omega,by go_num,HO1.out,HB1.out,hnew⟩
              case measure=>simp [intOf];omega
          · have hlt3:¬ (((q+k:Nat):Int)<(L:Int)):=by omega
            have hval:Hid (val zs=val xs/2^n.toNat):=by
              show _=_
              rw [←hvY.out];exact shr_end (k:=k) (by rw [hlenY.out];omega) wy.out (by omega) r3
            have hwz:Hid (Words zs):=r2
            have hlz:Hid (zs.length≤17592186044415):=by show _≤_;omega
            have hcq:wr.cell? ⟨g,o+q,none⟩=some (.int .u64 (nth xs q)):=((bcell hbel).1 _ _ hgL).trans ((bcell hbel0.out).1 _ _ hgL ▸ hc0 q (by omega))
            have hNZ:=Lib.hid (HO.out.nat hlz.out hwz.out)
            clear hrr r1 r2 r3 ho hbel
            by_cases hr0:0<r
            · have hr1:(0:Int)<(r:Int):=by omega
              have hlw:(IntKind.u64.wrap (nth xs q*2^(64-r)) != 0)=decide (nth xs q % 2^r≠0):=lost_word (wx.out.nth q) hr0 (by omega)
              obtain ⟨b2,hb2⟩:∃ b,decide (nth xs q % 2^r≠0)=b:=⟨_,rfl⟩
              rw [hb2] at hlw
              have hlo2:Hid (lostB (val xs) n.toNat=(t || b2)):=by show _=_;rw [hlo.out,ht.out,hb2]
              have hx0:=(wx.out.nth q).1;have hx1:=(wx.out.nth q).2
              clear hb2 ht
              generalize nth xs q=x at *
              cases t with
              | true =>
                go_wp2_with fail
                refine (norm_calls hNZ.out).mono ?_
                rintro e' w2 ⟨v2,rfl,hn2,hb2⟩
                rw [hval.out] at hn2
                have HN2:=Lib.hid hn2;have HB2:=Lib.hid hb2
                clear hn2 hb2
                go_wp2
                go_ret2
                exact ⟨_,by rw [hlo2.out];rfl,HN2.out.mono HB.out.size,below_then HB.out HB2.out⟩
              | false =>
                go_wp2_with (simp only [htd,htm])
                refine (norm_calls hNZ.out).mono ?_
                rintro e' w2 ⟨v2,rfl,hn2,hb2⟩
                rw [hval.out] at hn2
                have HN2:=Lib.hid hn2;have HB2:=Lib.hid hb2
                clear hn2 hb2
                go_wp2
                go_ret2
                exact ⟨_,by rw [hlo2.out];rfl,HN2.out.mono HB.out.size,below_then HB.out HB2.out⟩
            · have hr1:¬ ((0:Int)<(r:Int)):=by omega
              have hlo2:Hid (lostB (val xs) n.toNat=t):=by
                show _=_
                rw [hlo.out,ht.out,show r=0 from by omega];simp
              go_wp2_with fail
              refine (norm_calls hNZ.out).mono ?_
              rintro e' w2 ⟨v2,rfl,hn2,hb2⟩
              rw [hval.out] at hn2
              have HN2:=Lib.hid hn2;have HB2:=Lib.hid hb2
              clear hn2 hb2
              go_wp2
              go_ret2
              exact ⟨_,by rw [hlo2.out];rfl,HN2.out.mono HB.out.size,below_then HB.out HB2.out⟩
theorem mul3step{x y cc ov:Int}(hx:Word x)(hy:Word y)(hc:Word cc)(ho:Word ov) :
    ∃ h l s t c1 c2:Int,(∀ W,Calls Tryz.prog 128 #[.int .u64 x,.int .u64 y] W fun e w'=>e = .returned (.tuple #[.int .u64 l,.int .u64 h])∧W=w') ∧
      IntKind.u64.wrap (ov+l)=s∧IntKind.u64.wrap (s+cc)=t∧(s<l→c1=1)∧(¬ s<l→c1=0)∧(t<cc→c2=1)∧(¬ t<cc→c2=0) ∧
      0≤h∧0≤c1∧0≤c2∧h+c1+c2≤18446744073709551615∧Hid (Word t∧t+18446744073709551616*(h+c1+c2)=ov+cc+x*y):=by
  have e1:=lo_hi (x*y)
  have w1:=lo64_word (x*y)
  have p0:0≤x*y:=Int.mul_nonneg hx.1 hy.1
  have p1:x*y≤18446744073709551615*18446744073709551615:=by
    have:=hx.2;have:=hy.2
    exact Int.mul_le_mul (by omega) (by omega) hy.1 (by omega)
  have h0:0≤hi64 (x*y):=by unfold hi64;omega
  refine ⟨hi64 (x*y),lo64 (x*y),lo64 (ov+lo64 (x*y)),lo64 (lo64 (ov+lo64 (x*y))+cc),if lo64 (ov+lo64 (x*y))<lo64 (x*y) then 1 else 0,if lo64 (lo64 (ov+lo64 (x*y))+cc)<cc then 1 else 0,fun W=>times_calls W hx hy,wrap_lo _,wrap_lo _,?_⟩
  have hc2:=hc.2;have hc1:=hc.1;have ho1:=ho.1;have ho2:=ho.2
  generalize x*y=P at *
  have e2:=lo_hi (ov+lo64 P)
  have w2:=lo64_word (ov+lo64 P)
  generalize lo64 P=L at *
  generalize hi64 P=H at *
  have e3:=lo_hi (lo64 (ov+L)+cc)
  have w3:=lo64_word (lo64 (ov+L)+cc)
  generalize lo64 (ov+L)=S at *
  generalize hi64 (ov+L)=SH at *
  generalize lo64 (S+cc)=T at *
  generalize hi64 (S+cc)=TH at *
  have:=w1.1;have:=w1.2;have:=w2.1;have:=w2.2;have:=w3.1;have:=w3.2
  have k1:(if S<L then (1:Int) else 0)=SH:=by split<;>omega
  have k2:(if T<cc then (1:Int) else 0)=TH:=by split<;>omega
  refine ⟨fun h=>if_pos h,fun h=>if_neg h,fun h=>if_pos h,fun h=>if_neg h,h0,?_,?_,?_,w3,?_⟩
  all_goals rw [k1] at *<;>first | rw [k2] at * | skip
  all_goals omega
set_option maxRecDepth 100000 in
set_option maxHeartbeats 3200000 in
theorem mul3_calls{B B':Nat}{w:World}{v v':Value}{xs ys:List Int}(h:NatAt B w v xs)(h':NatAt B' w v' ys)(hm:(ws (val xs)).length+(ws (val ys)).length≤17592186044414) :
    Calls Tryz.prog 107 #[v,v'] w (RNat w (ws (val xs*val ys))):=by
  have hvx:=val_nonneg h.words
  have hvy:=val_nonneg h'.words
  have HY0:=Lib.hid h'
  clear h'
  go_enter Tryz.func107,Tryz.ntmps107
  go_wp2_with fail
  refine (norm_calls h).mono ?_
  rintro e w1 ⟨v1,rfl,hn0,hb1⟩
  have HB1:=Lib.hid hb1;have HN0:=Lib.hid hn0
  clear hb1 hn0 h
  go_wp2_with fail
  refine (norm_calls (HY0.out.below HB1.out)).mono ?_
  rintro e wm ⟨v2,rfl,hn',hb2⟩
  have HB:Hid (Below w.heap.size w wm):=below_then HB1.out hb2
  have hn:=HN0.out.below hb2
  clear HB1 HN0 HY0 hb2
  obtain ⟨A1,L1,c1,g1,o1,rfl,a1,k1,q1,l1,hg1,hc1,e1,wx⟩:=hn.sub
  obtain ⟨A2,L2,c2,g2,o2,rfl,a2,k2,q2,l2,hg2,hc2,e2,wy⟩:=hn'.sub
  have vx:Hid (val (ws (val xs))=val xs):=val_ws hvx
  have vy:Hid (val (ws (val ys))=val ys):=val_ws hvy
  have hm':L1+L2≤17592186044414:=by have:=e1.out;have:=e2.out;omega
  clear hn hn' hvx hvy hm
  generalize val xs=nx at *
  generalize val ys=ny at *
  generalize ws nx=X at *
  generalize ws ny=Y at *
  have hmk:=make_run 23 Tryz.underlying23 (L1+L2+1) (by omega)
  rw [show ((L1+L2+1:Nat):Int)=(L1:Int)+(L2:Int)+1 from by omega] at hmk
  go_wp2
  go_loopw [28] (fun i wr=>∃ (k:Nat) (outs:List Int),k≤L1∧i = .int .i64 k∧wm.heap.size<wr.heap.size∧RowAt wr wm.heap.size outs∧Below wm.heap.size wm wr∧Hid (outs.length=L1+L2+1∧Words outs∧val outs=val (X.take k)*val Y∧∀ j,k+L2≤j→nth outs j=0)) (fun i _=>L1-(intOf i).toNat)
  case atStart =>
    refine ⟨0,List.replicate (L1+L2+1) 0,by omega,rfl,by simp,RowAt.made _ _,below_also _ _,by simp,Words.zeros _,?_,fun j _=>nth_zeros _ _⟩
    rw [val_zeros];simp [val]
  case round =>
    obtain ⟨k,outs,hk,rfl,hG,hrow,hbel,hr⟩:=hrel
    obtain ⟨wo,rfl⟩:∃ wo:World,wo=wr:=⟨_,rfl⟩
    by_cases hlt:k<L1
    · obtain rfl:=a1 (by omega)
      have hg1':=hg1 (by omega)
      have hxk:wo.cell? ⟨g1,o1+k,none⟩=some (.int .u64 (nth X k)):=((bcell hbel).1 _ _ hg1').trans (hc1 k hlt)
      go_wp2
      go_loopw [8,35] (fun c j wr=>∃ (t:Nat) (cc:Int) (os:List Int),t≤L2∧j = .int .i64 t∧c = .int .u64 cc∧wm.heap.size<wr.heap.size∧RowAt wr wm.heap.size os∧Below wm.heap.size wm wr∧Hid (Word cc∧os.length=L1+L2+1∧Words os∧val os+wpow (k+t)*cc=val outs+wpow k*(nth X k*val (Y.take t))∧∀ j,k+t≤j→nth os j=nth outs j)) (fun _ j _=>L2-(intOf j).toNat)
      case atStart =>
        obtain ⟨r1,r2,r3,r4⟩:=hr.out
        refine ⟨0,0,outs,by omega,rfl,rfl,hG,hrow,hbel,⟨by omega,by omega⟩,r1,r2,?_,fun _ _=>rfl⟩
        simp [val]
      case round =>
        obtain ⟨t,cc,os,ht,rfl,rfl,hG',hrow',hbel',hr'⟩:=hrel
        by_cases hlt2:t<L2
        · obtain rfl:=a2 (by omega)
          have hg2':=hg2 (by omega)
          have hyk:wr.cell? ⟨g2,o2+t,none⟩=some (.int .u64 (nth Y t)):=((bcell hbel').1 _ _ hg2').trans (hc2 t hlt2)
          have hlen:k+t<os.length:=by rw [hr'.out.2.1];omega
          have hout:wr.cell? ⟨wm.heap.size,k+t,none⟩=some (.int .u64 (nth os (k+t))):=hrow'.cell hlen
          have hfr:wr.frozen? ⟨wm.heap.size,k+t,none⟩=false:=hrow'.frozen _
          obtain ⟨hh,l,s,on,d1,d2,hmul,hs,hon,f1,f2,f3,f4,p1,p2,p3,p5,hfin⟩:=mul3step (wx.out.nth k) (wy.out.nth t) hr'.out.1 (hr'.out.2.2.1.nth (k+t))
          have hnew:Hid (RowAt (wr.setCell ⟨wm.heap.size,k+t,none⟩ (.int .u64 on)) wm.heap.size (os.set (k+t) on)):=hrow'.set _ _
          have hbel2:Hid (Below wm.heap.size wm wr):=hbel'
          have hrel':Hid (Word (hh+d1+d2)∧(os.set (k+t) on).length=L1+L2+1∧Words (os.set (k+t) on)∧val (os.set (k+t) on)+wpow (k+(t+1))*(hh+d1+d2)=val outs+wpow k*(nth X k*val (Y.take (t+1)))∧∀ j,k+(t+1)≤j→nth (os.set (k+t) on) j=nth outs j):=by
            obtain ⟨q1,q2,q3,q4,q5⟩:=hr'.out
            obtain ⟨f1,f2⟩:=hfin.out
            refine ⟨⟨by omega,by omega⟩,by simp [q2],q3.set _ f1,mul_inner (by omega) (by rw [e2.out];omega) q4 f2,fun j hj=>?_⟩
            rw [nth_set_ne _ (by omega),q5 j (by omega)]
          clear hfin hr' hrow' hbel' hlen hr hrow hbel hxk
          have HM:=Lib.hid hmul;clear hmul
          generalize nth os (k+t)=ov at *
          by_cases hA:s<l
          · obtain rfl:=f1 hA
            by_cases hB:on<cc
            · obtain rfl:=f3 hB
              clear f1 f2 f3 f4
              go_wp2_with fail
              refine (HM.out _).mono ?_
              rintro e w' ⟨rfl,rfl⟩
              go_wp2
              go_roundw
              case rel=>exact ⟨t+1,_,_,by omega,by go_num,rfl,by simpa using hG',hnew.out,hbel2.out.setCell (Nat.le_refl _) _,hrel'⟩
              case measure=>simp [intOf];omega
            · obtain rfl:=f4 hB
              clear f1 f2 f3 f4
              simp only [Int.add_zero] at hrel' p5
              go_wp2_with fail
              refine (HM.out _).mono ?_
              rintro e w' ⟨rfl,rfl⟩
              go_wp2
              go_roundw
              case rel=>exact ⟨t+1,_,_,by omega,by go_num,rfl,by simpa using hG',hnew.out,hbel2.out.setCell (Nat.le_refl _) _,hrel'⟩
              case measure=>simp [intOf];omega
          · obtain rfl:=f2 hA
            by_cases hB:on<cc
            · obtain rfl:=f3 hB
              clear f1 f2 f3 f4
              simp only [Int.add_zero] at hrel' p5
              go_wp2_with fail
              refine (HM.out _).mono ?_
              rintro e w' ⟨rfl,rfl⟩
              go_wp2
              go_roundw
              case rel=>exact ⟨t+1,_,_,by omega,by go_num,rfl,by simpa using hG',hnew.out,hbel2.out.setCell (Nat.le_refl _) _,hrel'⟩
              case measure=>simp [intOf];omega
            · obtain rfl:=f4 hB
              clear f1 f2 f3 f4
              simp only [Int.add_zero] at hrel' p5
              go_wp2_with fail
              refine (HM.out _).mono ?_
              rintro e w' ⟨rfl,rfl⟩
              go_wp2
              go_roundw
              case rel=>exact ⟨t+1,_,_,by omega,by go_num,rfl,by simpa using hG',hnew.out,hbel2.out.setCell (Nat.le_refl _) _,hrel'⟩
              case measure=>simp [intOf];omega
        · obtain rfl:L2=t:=by omega
          have hlen:k+L2<os.length:=by rw [hr'.out.2.1];omega
          have hout:wr.cell? ⟨wm.heap.size,k+L2,none⟩=some (.int .u64 (nth os (k+L2))):=hrow'.cell hlen
          have hfr:wr.frozen? ⟨wm.heap.size,k+L2,none⟩=false:=hrow'.frozen _
          have hnew:Hid (RowAt (wr.setCell ⟨wm.heap.size,k+L2,none⟩ (.int .u64 cc)) wm.heap.size (os.set (k+L2) cc)):=hrow'.set _ _
          have hbel2:Hid (Below wm.heap.size wm wr):=hbel'
          have hrel':Hid ((os.set (k+L2) cc).length=L1+L2+1∧Words (os.set (k+L2) cc)∧val (os.set (k+L2) cc)=val (X.take (k+1))*val Y∧∀ j,k+1+L2≤j→nth (os.set (k+L2) cc) j=0):=by
            obtain ⟨q1,q2,q3,q4,q5⟩:=hr'.out
            obtain ⟨r1,r2,r3,r4⟩:=hr.out
            refine ⟨by simp [q2],q3.set _ q1,?_,fun j hj=>?_⟩
            · rw [val_set _ _ _ hlen,q5 _ (Nat.le_refl _),r4 _ (Nat.le_refl _),val_take_more]
              rw [val_take_all _ _ (by rw [e2.out];omega),r3] at q4
              grind
            · rw [nth_set_ne _ (by omega),q5 j (by omega),r4 j (by omega)]
          clear hr' hrow' hbel' hlen hr hrow hbel hxk
          go_wp2
          go_roundw
          case rel=>exact ⟨k+1,_,by omega,by go_num,by simpa using hG',hnew.out,hbel2.out.setCell (Nat.le_refl _) _,hrel'⟩
          case measure=>simp [intOf];omega
    · obtain rfl:L1=k:=by omega
      obtain ⟨r1,r2,r3,r4⟩:=hr.out
      have hn:Hid (NatAt wm.heap.size wo (.slice (some ⟨wm.heap.size,0,none⟩) (L1+L2+1) (L1+L2+1)) outs):=hrow.nat (Nat.le_refl _) r2 _ r1 (by rw [r1];omega)
      have hval:Hid (val outs=nx*ny):=by
        show _=_
        rw [r3,val_take_all _ _ (by rw [e1.out];omega),vx.out,vy.out]
      have hbel2:Hid (Below wm.heap.size wm wo):=hbel
      clear hr r1 r2 r3 r4 hrow hbel
      go_wp2_with fail
      refine (norm_calls hn.out).mono ?_
      rintro e w' ⟨v',rfl,hn',hb'⟩
      rw [hval.out] at hn'
      have HN':=Lib.hid hn';have HB':=Lib.hid hb'
      clear hn' hb'
      go_wp2
      go_ret
      exact ⟨_,rfl,HN'.out.mono (Nat.le_trans HB.out.size hbel2.out.size),below_then (below_then HB.out hbel2.out) HB'.out⟩
structure Dx where
  neg:Bool
  xs:List Int
  e:Int
def Dx.m(d:Dx):Int:=val d.xs
def mkD(neg:Bool)(m e:Int):Dx:=if m=0 then ⟨false,[],0⟩ else ⟨neg,ws (m/2^tz m),e+tz m⟩
theorem tz_small{xs:List Int}(hw:Words xs)(hl:xs.length≤17592186044415):tz (val xs)≤1125899906842560:=by
  have h0:=val_nonneg hw
  by_cases hp:0<val xs
  · have:=tz_lt_blen hp
    have:=blen_small hw hl
    omega
  · rw [show val xs=0 from by omega,tz_zero];omega
def Dx.zeroB(d:Dx):Bool:=decide (d.m=0)
def Dx.sgn(d:Dx):Int:=if d.m=0 then 0 else if d.neg then -1 else 1
def Dx.fitsB(d:Dx):Bool:=!greatB d.m && decide (-32768≤d.e) && decide (d.e≤32768)
def Dx.Sm(N:Nat)(d:Dx):Prop:=blen d.m≤N∧-(N:Int)≤d.e∧d.e≤N
theorem ws_len_blen{n:Int}(h:0≤n):64*(ws n).length≤blen n+63:=by
  by_cases h0:0<n
  · have:=blen_last h0
    have h1:=ws_last_ne h0
    have h2:=(words_ws n).nth ((ws n).length-1)
    have:=blen_pos (n:=nth (ws n) ((ws n).length-1)) (by have:=h2.1;omega)
    have:=ws_len_pos h0
    omega
  · rw [ws_nonpos (by omega)];simp
def timesD(a b:Dx):Dx:=mkD (!(a.neg == b.neg)) (a.m*b.m) (a.e+b.e)
def oneD(d:Dx):Dx:=mkD d.neg d.m d.e
def negD(d:Dx):Dx:=mkD (!d.neg) d.m d.e
def Dx.sm(d:Dx):Int:=if d.neg then -d.m else d.m
def mkS(s e:Int):Dx:=mkD (decide (s<0)) (s.natAbs:Int) e
def plusX(x y:Dx):Dx :=
  if x.m=0 then y else if y.m=0 then x else mkS (x.sm*2^(x.e-min x.e y.e).toNat+y.sm*2^(y.e-min x.e y.e).toNat) (min x.e y.e)
def plusD(a b:Dx):Dx:=plusX (oneD a) (oneD b)
theorem mkD_zero(neg:Bool)(e:Int):mkD neg 0 e=⟨false,[],0⟩:=by unfold mkD;rw [if_pos rfl]
theorem mkD_m{neg:Bool}{m e:Int}(h:0≤m):(mkD neg m e).m=m/2^tz m:=by
  unfold mkD Dx.m
  split
  · rename_i h0;rw [h0];simp [val]
  · exact val_ws (Int.ediv_nonneg h (by have:=two_pow_pos (tz m);omega))
theorem tz_div{m:Int}(h:0<m):m=2^tz m*(m/2^tz m)∧0<m/2^tz m:=by
  obtain ⟨k,hk,e⟩:=tz_spec h
  have p:=two_pow_pos (tz m)
  have e2:m/2^tz m=2*k+1:=by
    conv=>lhs;lhs;rw [e]
    exact Int.mul_ediv_cancel_left _ (by omega)
  rw [e2];exact ⟨e,by omega⟩
theorem mkD_m_zero{neg:Bool}{m e:Int}(h:0≤m):(mkD neg m e).m=0↔m=0:=by
  rw [mkD_m h]
  constructor
  · intro h0
    by_cases hp:0<m
    · have:=(tz_div hp).2;omega
    · omega
  · rintro rfl;simp
theorem mkD_words(neg:Bool)(m e:Int):Words (mkD neg m e).xs:=by
  unfold mkD;split
  · exact Words.nil
  · exact words_ws _
theorem mkD_ws{neg:Bool}{m e:Int}(h:0≤m):(mkD neg m e).xs=ws (mkD neg m e).m:=by
  rw [mkD_m h];unfold mkD;split
  · rename_i h0;rw [h0];simp [ws_zero]
  · rfl
theorem mkD_sm{neg:Bool}{m e:Int}{N M:Nat}(h:0≤m)(hb:blen m≤N)(e0:-(M:Int)≤e)(e1:e≤M):(mkD neg m e).Sm (N+M):=by
  by_cases hp:0<m
  · have t:=tz_lt_blen hp
    refine ⟨?_,?_,?_⟩
    · rw [mkD_m h]
      have:=blen_mono (m:=m/2^tz m) (n:=m) (Int.ediv_le_self _ h)
      omega
    · unfold mkD;rw [if_neg (by omega)];show _≤e+(tz m:Int);omega
    · unfold mkD;rw [if_neg (by omega)];show e+(tz m:Int)≤_;omega
  · obtain rfl:m=0:=by omega
    rw [mkD_zero];exact ⟨by simp [Dx.m,val,blen],by show _≤(0:Int);omega,by show (0:Int)≤_;omega⟩
theorem Dx.Sm.mono{N M:Nat}{d:Dx}(h:d.Sm N)(hm:N≤M):d.Sm M:=⟨by have:=h.1;omega,by have:=h.2.1;omega,by have:=h.2.2;omega⟩
theorem plus_same{n:Bool}{X Y e:Int}(_:0≤X)(_:0≤Y)(hp:0<X+Y):mkD n (X+Y) e=mkS ((if n then -X else X)+(if n then -Y else Y)) e:=by
  unfold mkS
  cases n with
  | true =>
    rw [show (decide ((if true=true then -X else X)+(if true=true then -Y else Y)<0))=true by simp;omega]
    congr 1
    simp;omega
  | false =>
    rw [show (decide ((if false=true then -X else X)+(if false=true then -Y else Y)<0))=false by simp;omega]
    congr 1
    simp;omega
theorem plus_diff{n:Bool}{X Y e:Int}(h:Y≤X):mkD n (X-Y) e=mkS ((if n then -X else X)+(if !n then -Y else Y)) e:=by
  unfold mkS
  by_cases hz:X=Y
  · subst hz
    rw [Int.sub_self,mkD_zero]
    cases n<;>simp [mkD_zero,Int.add_right_neg,Int.add_left_neg]
  · cases n with
    | true =>
      rw [show (decide ((if true=true then -X else X)+(if (!true)=true then -Y else Y)<0))=true by simp;omega]
      congr 1
      simp;omega
    | false =>
      rw [show (decide ((if false=true then -X else X)+(if (!false)=true then -Y else Y)<0))=false by simp;omega]
      congr 1
      simp;omega
theorem sm_mul(n:Bool)(m p:Int):(if n then -m else m)*p=if n then -(m*p) else m*p:=by
  cases n<;>simp [Int.neg_mul]
theorem scaled_len{m:Int}{k:Nat}(h:0<m)(hb:blen m≤137438953472)(hk:k≤274877906944):0<m*2^k∧(ws (m*2^k)).length≤17592186044414:=by
  have p:=two_pow_pos k
  have h1:=Int.mul_pos h p
  refine ⟨h1,?_⟩
  have:=ws_len_blen (n:=m*2^k) (by omega)
  rw [blen_mul_pow h] at this
  omega
theorem plus_parts{x y:Dx}(hx:0≤x.m)(hy:0≤y.m)(hx0:x.m≠0)(hy0:y.m≠0)(sx:x.Sm 137438953472)(sy:y.Sm 137438953472) :
    ∃ X Y mn:Int,x.m*2^(x.e-min x.e y.e).toNat=X∧y.m*2^(y.e-min x.e y.e).toNat=Y∧min x.e y.e=mn∧0<X∧0<Y∧(ws X).length≤17592186044414∧(ws Y).length≤17592186044414 ∧
      -4611686018427387904≤mn∧mn≤4611686018427387904∧(x.neg=y.neg→plusX x y=mkD x.neg (X+Y) mn)∧(x.neg≠y.neg→Y≤X→plusX x y=mkD x.neg (X-Y) mn)∧(x.neg≠y.neg→X≤Y→plusX x y=mkD y.neg (Y-X) mn):=by
  obtain ⟨s1,s2,s3⟩:=sx
  obtain ⟨s4,s5,s6⟩:=sy
  have l1:=scaled_len (m:=x.m) (k:=(x.e-min x.e y.e).toNat) (by omega) s1 (by omega)
  have l2:=scaled_len (m:=y.m) (k:=(y.e-min x.e y.e).toNat) (by omega) s4 (by omega)
  have e0:plusX x y=mkS ((if x.neg then -(x.m*2^(x.e-min x.e y.e).toNat) else x.m*2^(x.e-min x.e y.e).toNat)+(if y.neg then -(y.m*2^(y.e-min x.e y.e).toNat) else y.m*2^(y.e-min x.e y.e).toNat)) (min x.e y.e):=by
    unfold plusX;rw [if_neg hx0,if_neg hy0];unfold Dx.sm;rw [sm_mul,sm_mul]
  refine ⟨_,_,_,rfl,rfl,rfl,l1.1,l2.1,l1.2,l2.2,by omega,by omega,?_,?_,?_⟩
  · intro h
    rw [e0,←h];exact (plus_same (by omega) (by omega) (by omega)).symm
  · intro h hle
    have:y.neg = !x.neg:=by cases hxn:x.neg<;>cases hyn:y.neg<;>simp_all
    rw [e0,this];exact (plus_diff hle).symm
  · intro h hle
    have:x.neg = !y.neg:=by cases hxn:x.neg<;>cases hyn:y.neg<;>simp_all
    rw [e0,this,Int.add_comm];exact (plus_diff hle).symm
def lessD(a b:Dx):Dx:=plusD a (negD b)
theorem negD_sm{d:Dx}{N:Nat}(h:d.Sm N)(hm:0≤d.m):(negD d).Sm (N+N):=mkD_sm hm h.1 h.2.1 h.2.2
def cutX(x:Dx)(p:Int)(up:Bool):Dx :=
  if (blen x.m:Int)-p≤0 then x else mkD x.neg (x.m/2^((blen x.m:Int)-p).toNat+if up == x.neg then 0 else 1) (x.e+((blen x.m:Int)-p))
def cutD(d:Dx)(p:Int)(up:Bool):Dx:=cutX (oneD d) p up
def Dx.scl(d:Dx)(mn:Int):Int:=d.sm*2^(d.e-mn).toNat
def cmpD(a b:Dx):Int:=cmpI (a.scl (min a.e b.e)) (b.scl (min a.e b.e))
theorem scl_sgn{d:Dx}(h:0≤d.m)(mn:Int):(d.sgn=0∧d.scl mn=0)∨(d.sgn=1∧d.neg=false∧0<d.m∧d.scl mn=d.m*2^(d.e-mn).toNat∧0<d.m*2^(d.e-mn).toNat)∨(d.sgn = -1∧d.neg=true∧0<d.m∧d.scl mn = -(d.m*2^(d.e-mn).toNat)∧0<d.m*2^(d.e-mn).toNat):=by
  by_cases h0:d.m=0
  · left;unfold Dx.sgn Dx.scl Dx.sm;rw [if_pos h0,h0];simp
  · have hp:0<d.m:=by omega
    have hq:=Int.mul_pos hp (two_pow_pos (d.e-mn).toNat)
    cases hn:d.neg with
    | false=>right;left;unfold Dx.sgn Dx.scl Dx.sm;rw [if_neg h0,hn];simp [hp,hq]
    | true=>right;right;unfold Dx.sgn Dx.scl Dx.sm;rw [if_neg h0,hn];simp [hp,hq,Int.neg_mul]
theorem sgn_cases{d:Dx}:d.sgn=0∨d.sgn=1∨d.sgn = -1:=by
  unfold Dx.sgn;split
  · left;rfl
  · split
    · right;right;rfl
    · right;left;rfl
theorem cmpD_lt{a b:Dx}(ha:0≤a.m)(hb:0≤b.m)(h:a.sgn<b.sgn):cmpD a b = -1:=by
  refine cmpI_of_lt ?_
  rcases scl_sgn ha (min a.e b.e) with ⟨h1,h2⟩|⟨h1,_,_,h2,h3⟩|⟨h1,_,_,h2,h3⟩<;>rcases scl_sgn hb (min a.e b.e) with ⟨k1,k2⟩|⟨k1,_,_,k2,k3⟩|⟨k1,_,_,k2,k3⟩<;>omega
theorem cmpD_gt{a b:Dx}(ha:0≤a.m)(hb:0≤b.m)(h:b.sgn<a.sgn):cmpD a b=1:=by
  refine cmpI_of_gt ?_
  rcases scl_sgn ha (min a.e b.e) with ⟨h1,h2⟩|⟨h1,_,_,h2,h3⟩|⟨h1,_,_,h2,h3⟩<;>rcases scl_sgn hb (min a.e b.e) with ⟨k1,k2⟩|⟨k1,_,_,k2,k3⟩|⟨k1,_,_,k2,k3⟩<;>omega
theorem cmpD_zero{a b:Dx}(ha:0≤a.m)(hb:0≤b.m)(h:a.sgn=0)(h':b.sgn=0):cmpD a b=0:=by
  have e:a.scl (min a.e b.e)=b.scl (min a.e b.e):=by
    rcases scl_sgn ha (min a.e b.e) with ⟨h1,h2⟩|⟨h1,_,_,h2,h3⟩|⟨h1,_,_,h2,h3⟩<;>rcases scl_sgn hb (min a.e b.e) with ⟨k1,k2⟩|⟨k1,_,_,k2,k3⟩|⟨k1,_,_,k2,k3⟩<;>omega
  unfold cmpD;rw [e,cmpI_self]
theorem cmpD_same{a b:Dx}(ha:0≤a.m)(hb:0≤b.m)(h:a.sgn=b.sgn)(h0:a.sgn≠0) :
    0<a.m∧0<b.m∧cmpD a b=a.sgn*cmpI (a.m*2^(a.e-min a.e b.e).toNat) (b.m*2^(b.e-min a.e b.e).toNat):=by
  unfold cmpD
  rcases scl_sgn ha (min a.e b.e) with ⟨h1,h2⟩|⟨h1,_,p1,h2,h3⟩|⟨h1,_,p1,h2,h3⟩<;>rcases scl_sgn hb (min a.e b.e) with ⟨k1,k2⟩|⟨k1,_,p2,k2,k3⟩|⟨k1,_,p2,k2,k3⟩<;>try omega
  · refine ⟨p1,p2,?_⟩;rw [h1,h2,k2];omega
  · refine ⟨p1,p2,?_⟩;rw [h1,h2,k2]
    generalize a.m*2^(a.e-min a.e b.e).toNat=A
    generalize b.m*2^(b.e-min a.e b.e).toNat=B
    unfold cmpI
    split<;>split<;>(try split)<;>(try split)<;>omega
theorem cmpI_blen{A B:Int}(_:0<A)(hb:0<B)(h:blen A<blen B):A<B:=by
  have h1:=blen_lt A
  have h2:=blen_ge hb
  have:=two_pow_le (j:=blen A) (k:=blen B-1) (by omega)
  omega
theorem cmpD_top{a b:Dx}(ha:0≤a.m)(hb:0≤b.m)(h:a.sgn=b.sgn)(h0:a.sgn≠0) :
    (a.e+blen a.m-1<b.e+blen b.m-1→cmpD a b = -a.sgn)∧(b.e+blen b.m-1<a.e+blen a.m-1→cmpD a b=a.sgn):=by
  obtain ⟨p1,p2,e⟩:=cmpD_same ha hb h h0
  have q1:=Int.mul_pos p1 (two_pow_pos (a.e-min a.e b.e).toNat)
  have q2:=Int.mul_pos p2 (two_pow_pos (b.e-min a.e b.e).toNat)
  have l1:=blen_mul_pow p1 (a.e-min a.e b.e).toNat
  have l2:=blen_mul_pow p2 (b.e-min a.e b.e).toNat
  rw [e]
  refine ⟨fun hlt=>?_,fun hlt=>?_⟩
  · rw [cmpI_of_lt (cmpI_blen q1 q2 (by omega))];omega
  · rw [cmpI_of_gt (cmpI_blen q2 q1 (by omega))];omega
theorem cmpI_mul{A B p:Int}(hp:0<p):cmpI (A*p) (B*p)=cmpI A B:=by
  rcases Int.lt_trichotomy A B with h | h | h
  · rw [cmpI_of_lt h,cmpI_of_lt (Int.mul_lt_mul_of_pos_right h hp)]
  · rw [h,cmpI_self,cmpI_self]
  · rw [cmpI_of_gt h,cmpI_of_gt (Int.mul_lt_mul_of_pos_right h hp)]
theorem one_scale{a:Dx}(h:0<a.m){mn mn':Int}(h1:mn≤mn')(h2:mn'≤(oneD a).e):a.e≤(oneD a).e∧(mn≤a.e→a.m*2^(a.e-mn).toNat=(oneD a).m*2^((oneD a).e-mn').toNat*2^(mn' - mn).toNat):=by
  have e1:(oneD a).e=a.e+tz a.m:=by unfold oneD mkD;rw [if_neg (by omega)]
  have e2:(oneD a).m=a.m/2^tz a.m:=mkD_m (by omega)
  obtain ⟨e3,p3⟩:=tz_div h
  refine ⟨by omega,fun h3=>?_⟩
  rw [e2]
  rw [e1] at h2 ⊢
  generalize a.m/2^tz a.m=k at *
  conv=>lhs;lhs;rw [e3]
  rw [Int.mul_comm (2^tz a.m) k,Int.mul_assoc,Int.mul_assoc,←Int.pow_add,←Int.pow_add]
  congr 2;omega
theorem cmpD_one{a b:Dx}(ha:0≤a.m)(hb:0≤b.m)(h:a.sgn=b.sgn)(h0:a.sgn≠0) :
    cmpD a b=a.sgn*cmpI ((oneD a).m*2^((oneD a).e-min (oneD a).e (oneD b).e).toNat) ((oneD b).m*2^((oneD b).e-min (oneD a).e (oneD b).e).toNat):=by
  obtain ⟨p1,p2,e⟩:=cmpD_same ha hb h h0
  have g1:=(one_scale p1 (mn:=min a.e b.e) (mn':=(oneD a).e) (by have:a.e≤(oneD a).e:=by { unfold oneD mkD;rw [if_neg (by omega)];show _≤a.e+(tz a.m:Int);omega }
                                                                 omega) (by omega)).1
  have g2:=(one_scale p2 (mn:=min a.e b.e) (mn':=(oneD b).e) (by have:b.e≤(oneD b).e:=by { unfold oneD mkD;rw [if_neg (by omega)];show _≤b.e+(tz b.m:Int);omega }
                                                                 omega) (by omega)).1
  rw [e,(one_scale p1 (mn:=min a.e b.e) (mn':=min (oneD a).e (oneD b).e) (by omega) (by omega)).2 (by omega),(one_scale p2 (mn:=min a.e b.e) (mn':=min (oneD a).e (oneD b).e) (by omega) (by omega)).2 (by omega),cmpI_mul (two_pow_pos _)]
structure Vx where
  lo:Dx
  hi:Dx
structure Fw where
  xs:List Int
  e:Int
inductive Ak where
  | fx
  | b
  | i (k:IntKind)
  | w
  | d
  | v
  | p
abbrev Ak.T:Ak→Type
  | .fx=>Fw
  | .b=>Bool
  | .i _=>Int
  | .w=>List Int
  | .d=>Dx
  | .v=>Vx
  | .p=>Vx×Vx
def WfW(xs:List Int):Prop:=Words xs∧xs.length≤17592186044415
def Dx.Wf(d:Dx):Prop:=WfW d.xs
def Vx.Wf(v:Vx):Prop:=v.lo.Wf∧v.hi.Wf
def Ak.wf:(k:Ak)→k.T→Prop
  | .fx,x=>WfW x.xs
  | .b,_=>True
  | .i _,_=>True
  | .w,xs=>WfW xs
  | .d,x=>Dx.Wf x
  | .v,x=>Vx.Wf x
  | .p,x=>Vx.Wf x.1∧Vx.Wf x.2
def dyL(nw:Bool)(d:Dx):List At:=[.bool d.neg,.words nw d.xs,.int .i64 d.e]
def ivL(nw:Bool)(v:Vx):List At:=[.bool v.lo.neg,.words nw v.lo.xs,.int .i64 v.lo.e,.bool v.hi.neg,.words nw v.hi.xs,.int .i64 v.hi.e]
def fwL(nw:Bool)(x:Fw):List At:=[.words nw x.xs,.int .u64 x.e]
def Ak.enc:(k:Ak)→k.T→Sv
  | .fx,x=>.agg (fwL false x)
  | .b,x=>.one (.bool x)
  | .i q,n=>.one (.int q n)
  | .w,xs=>.one (.words false xs)
  | .d,x=>.agg (dyL false x)
  | .v,x=>.agg (ivL false x)
  | .p,x=>.agg (ivL false x.1 ++ ivL false x.2)
def decB:Sv→Option Bool
  | .one (.bool x)=>some x
  | _=>none
def decI(q:IntKind):Sv→Option Int
  | .one (.int q' n)=>match ikBeq q q' with | true=>some n | false=>none
  | _=>none
def decW:Sv→Option (List Int)
  | .one (.words _ xs)=>some xs
  | _=>none
def decD:Sv→Option Dx
  | .agg [.bool n,.words _ xs,.int .i64 e]=>some ⟨n,xs,e⟩
  | _=>none
def decV:Sv→Option Vx
  | .agg [.bool n,.words _ xs,.int .i64 e,.bool n',.words _ xs',.int .i64 e']=>some ⟨⟨n,xs,e⟩,⟨n',xs',e'⟩⟩
  | _=>none
def decP:Sv→Option (Vx×Vx)
  | .agg [.bool a,.words _ a1,.int .i64 a2,.bool b,.words _ b1,.int .i64 b2,.bool c,.words _ c1,.int .i64 c2,.bool d,.words _ d1,.int .i64 d2]=>some (⟨⟨a,a1,a2⟩,⟨b,b1,b2⟩⟩,⟨⟨c,c1,c2⟩,⟨d,d1,d2⟩⟩)
  | _=>none
def decX:Sv→Option Fw
  | .agg [.words _ xs,.int .u64 e]=>some ⟨xs,e⟩
  | _=>none
def Ak.dec:(k:Ak)→Sv→Option k.T
  | .fx=>decX
  | .b=>decB
  | .i q=>decI q
  | .w=>decW
  | .d=>decD
  | .v=>decV
  | .p=>decP
def AFun:List Ak→Type
  | []=>Option Prop×Tv
  | k :: ks=>k.T→AFun ks
def noSpec:Option Prop×Tv:=(some False,.tup [])
def specK:(ks:List Ak)→AFun ks→Spec
  | [],g,[]=>g
  | [],_,_ :: _=>noSpec
  | _ :: _,_,[]=>noSpec
  | k :: ks,g,s :: l=>match k.dec s with
    | some x=>specK ks (g x) l
    | none=>noSpec
theorem rep_wf{C:Base}{w:World}{v:Value}{nw:Bool}{xs:List Int}(h:Rep C noBox w v (.words nw xs)):WfW xs∧Rep C noBox w v (.words false xs):=by
  cases h with
  | words h =>
    refine ⟨?_,.words (h.mono fun g _ hD=>⟨hD.1,by simp⟩)⟩
    obtain ⟨A,c,_,_,h2,h3,_⟩:=h
    exact ⟨h3,h2.2⟩
theorem dec_ok{C:Base}{w:World}{v:Value}{s:Sv}{k:Ak}{x:k.T}(hd:k.dec s=some x)(hr:RepS C noBox w v s):k.wf x∧RepS C noBox w v (k.enc x):=by
  cases k with
  | fx =>
    have hd:decX s=some x:=hd
    unfold decX at hd
    split at hd
    · cases hd
      obtain ⟨vs,rfl,hl⟩:=hr
      match vs,hl with
      | [a,b],⟨h1,h2,_⟩ =>
        obtain ⟨h4,h5⟩:=rep_wf h1
        exact ⟨h4,_,rfl,h5,h2,trivial⟩
    · simp at hd
  | b =>
    have hd:decB s=some x:=hd
    unfold decB at hd
    split at hd
    · cases hd;exact ⟨trivial,hr⟩
    · simp at hd
  | i q =>
    have hd:decI q s=some x:=hd
    unfold decI at hd
    split at hd
    · split at hd
      · rename_i hq;cases hd;rw [←ikBeq_ok hq] at hr;exact ⟨trivial,hr⟩
      · simp at hd
    · simp at hd
  | w =>
    have hd:decW s=some x:=hd
    unfold decW at hd
    split at hd
    · cases hd;exact rep_wf hr
    · simp at hd
  | d =>
    have hd:decD s=some x:=hd
    unfold decD at hd
    split at hd
    · cases hd
      obtain ⟨vs,rfl,hl⟩:=hr
      match vs,hl with
      | [a,b,c],⟨h1,h2,h3,_⟩ =>
        obtain ⟨h4,h5⟩:=rep_wf h2
        exact ⟨h4,_,rfl,h1,h5,h3,trivial⟩
    · simp at hd
  | v =>
    have hd:decV s=some x:=hd
    unfold decV at hd
    split at hd
    · cases hd
      obtain ⟨vs,rfl,hl⟩:=hr
      match vs,hl with
      | [a,b,c,a',b',c'],⟨h1,h2,h3,k1,k2,k3,_⟩ =>
        obtain ⟨h4,h5⟩:=rep_wf h2
        obtain ⟨k4,k5⟩:=rep_wf k2
        exact ⟨⟨h4,k4⟩,_,rfl,h1,h5,h3,k1,k5,k3,trivial⟩
    · simp at hd
  | p =>
    have hd:decP s=some x:=hd
    unfold decP at hd
    split at hd
    · cases hd
      obtain ⟨vs,rfl,hl⟩:=hr
      match vs,hl with
      | [a,b,c,a',b',c',d,e,f,d',e',f'],⟨h1,h2,h3,k1,k2,k3,m1,m2,m3,n1,n2,n3,_⟩ =>
        obtain ⟨h4,h5⟩:=rep_wf h2
        obtain ⟨k4,k5⟩:=rep_wf k2
        obtain ⟨m4,m5⟩:=rep_wf m2
        obtain ⟨n4,n5⟩:=rep_wf n2
        exact ⟨⟨⟨h4,k4⟩,m4,n4⟩,_,rfl,h1,h5,h3,k1,k5,k3,m1,m5,m3,n1,n5,n3,trivial⟩
    · simp at hd
def VcK(E:Env)(fn:Func):(ks:List Ak)→AFun ks→(List Sv→List Sv)→Prop
  | [],g,acc=>(match g.1 with | none=>True | some p=>p)→∃ inv fuel,execF E inv fuel fn (acc []) (fun t=>t=g.2)
  | k :: ks,g,acc=>∀ x:k.T,k.wf x→VcK E fn ks (g x) (fun r=>acc (k.enc x :: r))
theorem specK_ok {P : Program} {E : Env} (hE : EnvOk P E) (hm : P.follows .mixedOrders = true) {f : FuncId} {fn : Func} {c : Code} (hf : P.funcs[f]? = some fn) (hb : fn.body = some c) (hname : (fn.name == "runtime.NumGoroutine") = false) {ks : List Ak} {g : AFun ks} (hk : ks.length ≤ fn.ntmps)
    (h:VcK E fn ks g id):SpecOk P f (specK ks g):=by
  refine ⟨⟨fn,c,hf,hname,hb⟩,fun C w vs l hC hX hT hvs hp=>?_⟩
  have key:∀ (ks:List Ak) (g:AFun ks) (acc:List Sv→List Sv) (l:List Sv) (vs:List Value),VcK E fn ks g acc→RepSs C noBox w vs l→(match (specK ks g l).1 with | none=>True | some p=>p) →
      l.length=ks.length∧∃ l',RepSs C noBox w vs l'∧l'.length=ks.length∧∃ inv fuel,execF E inv fuel fn (acc l') (fun t=>t=(specK ks g l).2):=by
    intro ks
    induction ks with
    | nil =>
      intro g acc l vs h hr hp
      cases l with
      | nil=>exact ⟨rfl,[],hr,rfl,h hp⟩
      | cons=>exact hp.elim
    | cons k ks ih =>
      intro g acc l vs h hr hp
      cases l with
      | nil=>exact hp.elim
      | cons s l =>
        cases vs with
        | nil=>exact hr.elim
        | cons v vs =>
          have e:specK (k :: ks) g (s :: l)=(match k.dec s with | some x=>specK ks (g x) l | none=>noSpec):=rfl
          rw [e] at hp ⊢
          cases hd:k.dec s with
          | none=>rw [hd] at hp;exact hp.elim
          | some x =>
            rw [hd] at hp
            obtain ⟨h1,h2⟩:=dec_ok hd hr.1
            obtain ⟨h3,l',h4,h5,h6⟩:=ih (g x) _ l vs (h x h1) hr.2 hp
            exact ⟨by simp [h3],k.enc x :: l',⟨h2,h4⟩,by simp [h5],h6⟩
  obtain ⟨h1,l',h2,h3,inv,fuel,h4⟩:=key ks g id l vs h hvs hp
  refine (execF_ok hE hm hf h4 hC hX hT h2 (by rw [hvs.length,h1];exact hk)).mono ?_
  rintro e w' ⟨v,t,rfl,rfl,h1,h2⟩
  exact ⟨v,rfl,h1,h2⟩
def HandK(P:Program)(f:FuncId):(ks:List Ak)→AFun ks→(C:Base)→(w:World)→(List Value→List Value)→Prop
  | [],g,C,w,acc=>(match g.1 with | none=>True | some p=>p)→Calls P f (acc []).toArray w fun e w'=>∃ v,e = .returned v∧RepT C noBox w' v g.2∧Below w.heap.size w w'
  | k :: ks,g,C,w,acc=>∀ x:k.T,k.wf x→∀ v,RepS C noBox w v (k.enc x)→HandK P f ks (g x) C w (fun r=>acc (v :: r))
theorem handK_ok {P : Program} {f : FuncId} {fn : Func} {c : Code} (hf : P.funcs[f]? = some fn) (hb : fn.body = some c) (hname : (fn.name == "runtime.NumGoroutine") = false) {ks : List Ak} {g : AFun ks}
    (h:∀ (C:Base) (w:World),C.n=w.heap.size→(∀ g,C.X g→g<C.n)→Tab w→HandK P f ks g C w id):SpecOk P f (specK ks g):=by
  refine ⟨⟨fn,c,hf,hname,hb⟩,fun C w vs l hC hX hT hvs hp=>?_⟩
  have key:∀ (ks:List Ak) (g:AFun ks) (acc:List Value→List Value) (l:List Sv) (vs:List Value),HandK P f ks g C w acc→RepSs C noBox w vs l→(match (specK ks g l).1 with | none=>True | some p=>p) →
      Calls P f (acc vs).toArray w fun e w'=>∃ v,e = .returned v∧RepT C noBox w' v (specK ks g l).2∧Below w.heap.size w w':=by
    intro ks
    induction ks with
    | nil =>
      intro g acc l vs h hr hp
      cases l with
      | nil=>cases vs with | nil=>exact h hp | cons=>exact hr.elim
      | cons=>exact hp.elim
    | cons k ks ih =>
      intro g acc l vs h hr hp
      cases l with
      | nil=>exact hp.elim
      | cons s l =>
        cases vs with
        | nil=>exact hr.elim
        | cons v vs =>
          have e:specK (k :: ks) g (s :: l)=(match k.dec s with | some x=>specK ks (g x) l | none=>noSpec):=rfl
          rw [e] at hp ⊢
          cases hd:k.dec s with
          | none=>rw [hd] at hp;exact hp.elim
          | some x =>
            rw [hd] at hp
            obtain ⟨h1,h2⟩:=dec_ok hd hr.1
            exact ih (g x) _ l vs (h x h1 v h2) hr.2 hp
  exact key ks g id l vs (h C w hC hX hT) hvs hp
section
variable {C:Base} {w w':World} {v:Value}
theorem rep_natAt{nw:Bool}{xs:List Int}(h:RepS C noBox w v (.one (.words nw xs))):NatAt 0 w v xs:=by
  cases (show Rep C noBox w v (.words nw xs) from h) with
  | words h=>exact (h.mono (D':=fun g=>0≤g) fun g _ _=>Nat.zero_le g).nat
theorem rep_new(hC:C.n=w.heap.size)(hX:∀ g,C.X g→g<C.n){xs:List Int}(h:NatAt w.heap.size w' v xs):Rep C noBox w' v (.words true xs) :=
  .words (h.isIn.mono fun g _ hD=>⟨⟨by simp,fun hx=>by have:=hX g hx;omega⟩,fun _=>by rw [hC];exact hD⟩)
theorem repS_int{k:IntKind}{n:Int}(h:RepS C noBox w v (.one (.int k n))):v = .int k n:=rep_int (A:=noBox) h
theorem repS_bool{b:Bool}(h:RepS C noBox w v (.one (.bool b))):v = .bool b:=rep_bool (A:=noBox) h
theorem nat_back{P:Program}{f:FuncId}{args:Array Value}{xs:List Int}(hC:C.n=w.heap.size)(hX:∀ g,C.X g→g<C.n)(h:Calls P f args w (RNat w xs)) :
    Calls P f args w fun e w'=>∃ v,e = .returned v∧RepT C noBox w' v (.sv (.one (.words true xs)))∧Below w.heap.size w w' :=
  h.mono fun _ _ ⟨v,e,h1,h2⟩=>⟨v,e,rep_new hC hX h1,h2⟩
theorem int_back{P:Program}{f:FuncId}{args:Array Value}{k:IntKind}{n:Int}(h:Calls P f args w (RVal w (.int k n))) :
    Calls P f args w fun e w'=>∃ v,e = .returned v∧RepT C noBox w' v (.sv (.one (.int k n)))∧Below w.heap.size w w' :=
  h.mono fun _ _ ⟨e,h2⟩=>⟨_,e,Rep.int k n,h2⟩
theorem bool_back{P:Program}{f:FuncId}{args:Array Value}{b:Bool}(h:Calls P f args w (RVal w (.bool b))) :
    Calls P f args w fun e w'=>∃ v,e = .returned v∧RepT C noBox w' v (.sv (.one (.bool b)))∧Below w.heap.size w w' :=
  h.mono fun _ _ ⟨e,h2⟩=>⟨_,e,Rep.bool b,h2⟩
end
def SpecsOk(P:Program):List (FuncId×Spec)→Prop
  | []=>True
  | p :: l=>WordOk P p.1 p.2∧SpecsOk P l
theorem SpecsOk.mem{P:Program}:∀ {l:List (FuncId×Spec)},SpecsOk P l→∀ p∈l,WordOk P p.1 p.2
  | [],_,p,h=>by simp at h
  | _ :: l,h,p,hp=>by
    rcases List.mem_cons.1 hp with rfl | hp
    · exact h.1
    · exact SpecsOk.mem h.2 p hp
def RowsOk(P:Program):List TyRow→Prop
  | []=>True
  | r :: l=>rowOf P r.id=some r∧RowsOk P l
theorem RowsOk.mem{P:Program}:∀ {l:List TyRow},RowsOk P l→∀ r∈l,rowOf P r.id=some r
  | [],_,p,h=>by simp at h
  | _ :: l,h,p,hp=>by
    rcases List.mem_cons.1 hp with rfl | hp
    · exact h.1
    · exact RowsOk.mem h.2 p hp
theorem envOk{P:Program}{T:List TyRow}{S:List (FuncId×Spec)}(h:RowsOk P T)(k:SpecsOk P S):EnvOk P ⟨T,S⟩:=⟨h.mem,k.mem⟩
def zD:List At:=[.bool false,.words true [],.int .i64 0]
def tyD:TyRow:=⟨25,3,true,zD,.struct [(0,1,false),(1,1,false),(2,1,false)]⟩
def zV:List At:=[.bool false,.words true [],.int .i64 0,.bool false,.words true [],.int .i64 0]
def tyV:TyRow:=⟨29,6,true,zV,.struct [(0,3,true),(3,3,true)]⟩
def tyInt:TyRow:=⟨3,1,false,[.int .i64 0],.int .i64⟩
def tyBool:TyRow:=⟨4,1,false,[.bool false],.bool⟩
def tyNat:TyRow:=⟨23,1,false,[.words true []],.slice 1 false true⟩
def tyWs:TyRow:=⟨22,1,false,[.words true []],.slice 1 false true⟩
def tyU64:TyRow:=⟨52,1,false,[.int .u64 0],.int .u64⟩
def tyI64:TyRow:=⟨2,1,false,[.int .i64 0],.int .i64⟩
def tyErr:TyRow:=⟨30,1,false,[.int .i64 0],.int .i64⟩
def tyDs:TyRow:=⟨48,1,false,[.words true []],.slice 3 true false⟩
def tyVs:TyRow:=⟨35,1,false,[.words true []],.slice 6 true false⟩
def tyU8:TyRow:=⟨5,1,false,[.int .u8 0],.int .u8⟩
def tys:List TyRow:=[tyD,tyV,tyInt,tyBool,tyNat,tyWs,tyErr,tyU64,tyI64,tyDs,tyVs,tyU8]
theorem tys_ok:RowsOk Tryz.prog tys:=⟨by kernel_rfl,by kernel_rfl,by kernel_rfl,by kernel_rfl,by kernel_rfl,by kernel_rfl,by kernel_rfl,by kernel_rfl,by kernel_rfl,by kernel_rfl,by kernel_rfl,by kernel_rfl,trivial⟩
theorem mixed:Tryz.prog.follows .mixedOrders=true:=by kernel_rfl
abbrev iT(n:Int):Tv:=.sv (.one (.int .i64 n))
abbrev bT(b:Bool):Tv:=.sv (.one (.bool b))
abbrev wT(xs:List Int):Tv:=.sv (.one (.words true xs))
abbrev dT(d:Dx):Tv:=.sv (.agg (dyL true d))
abbrev vT(v:Vx):Tv:=.sv (.agg (ivL true v))
theorem small_len{xs:List Int}(h:WfW xs):(ws (val xs)).length≤xs.length:=ws_length_of h.1
section
variable {C:Base} {w w':World} {v:Value}
theorem quiet_back{P:Program}{f:FuncId}{args:Array Value}{v:Value}(h:Calls P f args w fun e w'=>e = .returned v∧w=w'):Calls P f args w (RVal w v) :=
  h.mono fun _ _ ⟨e,h2⟩=>⟨e,by rw [h2];exact .refl _ _⟩
theorem natB_back{P:Program}{f:FuncId}{args:Array Value}{xs:List Int}{b:Bool}(hC:C.n=w.heap.size)(hX:∀ g,C.X g→g<C.n)(h:Calls P f args w (RNatB w xs b)) :
    Calls P f args w fun e w'=>∃ v,e = .returned v∧RepT C noBox w' v (.tup [.one (.words true xs),.one (.bool b)])∧Below w.heap.size w w' :=
  h.mono fun _ _ ⟨v,e,h1,h2⟩=>⟨_,e,⟨[v,.bool b],rfl,rep_new hC hX h1,Rep.bool b,trivial⟩,h2⟩
theorem natW_back{P:Program}{f:FuncId}{args:Array Value}{xs:List Int}{y:Int}(hC:C.n=w.heap.size)(hX:∀ g,C.X g→g<C.n)(h:Calls P f args w (RNatW w xs y)) :
    Calls P f args w fun e w'=>∃ v,e = .returned v∧RepT C noBox w' v (.tup [.one (.words true xs),.one (.int .u64 y)])∧Below w.heap.size w w' :=
  h.mono fun _ _ ⟨v,e,h1,h2⟩=>⟨_,e,⟨[v,.int .u64 y],rfl,rep_new hC hX h1,Rep.int _ _,trivial⟩,h2⟩
end
def lLen:Spec:=specK [.w] fun (xs:List Int)=>(none,iT (blen (val xs)))
theorem lLen_ok:SpecOk Tryz.prog 114 lLen :=
  handK_ok Tryz.func114 rfl (by decide) fun _ _ _ _ _=>fun _ _ _ h _=>int_back (quiet_back (len_calls (rep_natAt h)))
def lLow:Spec:=specK [.w] fun (xs:List Int)=>(none,iT (tz (val xs)))
theorem lLow_ok:SpecOk Tryz.prog 97 lLow :=
  handK_ok Tryz.func97 rfl (by decide) fun _ _ _ _ hT=>fun _ _ _ h _=>int_back (quiet_back (low_calls hT (rep_natAt h)))
def lOf:Spec:=specK [.i .u64] fun (x:Int)=>(some (Word x),wT (ws x))
theorem lOf_ok:SpecOk Tryz.prog 83 lOf :=
  handK_ok Tryz.func83 rfl (by decide) fun _ _ hC hX _=>fun _ _ v h hp=>by
    obtain rfl:=repS_int h
    exact nat_back hC hX (of_calls _ _ hp)
def lCmp:Spec:=specK [.w,.w] fun (xs:List Int) (ys:List Int)=>(none,iT (cmpI (val xs) (val ys)))
theorem lCmp_ok:SpecOk Tryz.prog 82 lCmp :=
  handK_ok Tryz.func82 rfl (by decide) fun _ _ _ _ _=>fun _ _ _ h _ _ _ h' _=>int_back ((lcmp_calls (rep_natAt h) (rep_natAt h')).mono fun _ _ h=>h)
def lAdd:Spec:=specK [.w,.w] fun (xs:List Int) (ys:List Int)=>(some (xs.length≤17592186044414∧ys.length≤17592186044414),wT (ws (val xs+val ys)))
theorem lAdd_ok:SpecOk Tryz.prog 116 lAdd :=
  handK_ok Tryz.func116 rfl (by decide) fun _ _ hC hX _=>fun _ _ _ h _ _ _ h' hp=>nat_back hC hX (ladd_calls (rep_natAt h) (rep_natAt h') hp.1 hp.2)
def lSub:Spec:=specK [.w,.w] fun (xs:List Int) (ys:List Int)=>(some (val ys≤val xs),wT (ws (val xs-val ys)))
theorem lSub_ok:SpecOk Tryz.prog 126 lSub :=
  handK_ok Tryz.func126 rfl (by decide) fun _ _ hC hX _=>fun _ _ _ h _ _ _ h' hp=>nat_back hC hX (lsub_calls (rep_natAt h) (rep_natAt h') hp)
def lMul:Spec:=specK [.w,.w] fun (xs:List Int) (ys:List Int)=>(some ((ws (val xs)).length+(ws (val ys)).length≤17592186044415),wT (ws (val xs*val ys)))
theorem lMul_ok:SpecOk Tryz.prog 117 lMul :=
  handK_ok Tryz.func117 rfl (by decide) fun _ _ hC hX _=>fun _ _ _ h _ _ _ h' hp=>nat_back hC hX (lmul_calls (rep_natAt h) (rep_natAt h') hp)
def lShl:Spec:=specK [.w,.i .i64] fun (xs:List Int) (n:Int)=>(some (0≤n∧n≤1099511627776∧(ws (val xs)).length≤8796093022208),wT (ws (val xs*2^n.toNat)))
theorem lShl_ok:SpecOk Tryz.prog 115 lShl :=
  handK_ok Tryz.func115 rfl (by decide) fun _ _ hC hX _=>fun _ _ _ h n _ v h' hp=>by
    obtain rfl:=repS_int h'
    have h0:(0:Int)≤n:=hp.1
    exact nat_back hC hX (lshl_calls n (n/64).toNat (n % 64).toNat (rep_natAt h) hp.1 hp.2.1 (by have h0:(0:Int)≤n:=hp.1;omega) (by omega) hp.2.2)
def lShr:Spec:=specK [.w,.i .i64] fun (xs:List Int) (n:Int)=>(some (0≤n∧n≤9007199254740992),.tup [.one (.words true (ws (val xs/2^n.toNat))),.one (.bool (lostB (val xs) n.toNat))])
theorem lShr_ok:SpecOk Tryz.prog 98 lShr :=
  handK_ok Tryz.func98 rfl (by decide) fun _ _ hC hX hT=>fun _ _ _ h n _ v h' hp=>by
    obtain rfl:=repS_int h'
    have h0:(0:Int)≤n:=hp.1
    exact natB_back hC hX (lshr_calls n (n/64).toNat (n % 64).toNat hT (rep_natAt h) hp.1 hp.2 (by have h0:(0:Int)≤n:=hp.1;omega) (by omega))
def lShort:Spec:=specK [.w,.i .u64] fun (xs:List Int) (d:Int)=>(some (Word d∧0<d),.tup [.one (.words true (ws (val xs/d))),.one (.int .u64 (val xs % d))])
theorem lShort_ok:SpecOk Tryz.prog 125 lShort :=
  handK_ok Tryz.func125 rfl (by decide) fun _ _ hC hX _=>fun _ _ _ h n _ v h' hp=>by
    obtain rfl:=repS_int h'
    exact natW_back hC hX (lshort_calls (rep_natAt h) hp.1 hp.2)
def lTrim:Spec:=specK [.w] fun (xs:List Int)=>(none,.sv (.one (.words false (ws (val xs)))))
theorem trim_in{D:Nat→Prop}{w:World}{v:Value}{xs:List Int}(h:NatIn D w v xs):Calls Tryz.prog 86 #[v] w fun e w'=>∃ v,e = .returned v∧NatIn D w v (ws (val xs))∧w=w':=by
  obtain ⟨A,c,rfl,h1,⟨h2,h2'⟩,h3,h5,h4⟩:=h
  by_cases hp:0<xs.length
  · obtain ⟨g,o,rfl,hD,hg,hcell⟩:=h4 hp
    refine (trim_core g o c xs w h1 h2 h2' fun j hj=>(hcell j hj).1).mono ?_
    rintro e w' ⟨rfl,rfl⟩
    have hle:=trimTo_le xs xs.length
    have htk:=take_trimTo h3
    have hlen:=trimTo_length h3
    refine ⟨_,rfl,⟨some ⟨g,o,none⟩,trimTo xs xs.length,by rw [←hlen],by omega,⟨by omega,by omega⟩,words_ws _,by simp,fun _=>⟨g,o,rfl,hD,hg,fun j hj=>⟨?_,(hcell j (by rw [←hlen] at hj;omega)).2⟩⟩⟩,rfl⟩
    rw [←hlen] at hj
    rw [(hcell j (by omega)).1,←htk,nth_take hj]
  · obtain rfl:xs = []:=List.eq_nil_of_length_eq_zero (by omega)
    refine (trim_empty A c w h2).mono ?_
    rintro e w' ⟨⟨A',rfl⟩,rfl⟩
    refine ⟨_,rfl,⟨A',0,by simp [val,ws_zero],by simp [val,ws_zero],⟨by omega,by simp [val,ws_zero]⟩,words_ws _,fun _=>rfl,fun hx=>absurd hx (by simp [val,ws_zero])⟩,rfl⟩
theorem lTrim_ok:SpecOk Tryz.prog 86 lTrim :=
  handK_ok Tryz.func86 rfl (by decide) fun C w hC hX _=>fun xs _ v h _=>by
    cases (show Rep C noBox w v (.words false xs) from h) with
    | words h =>
      refine (trim_in h).mono ?_
      rintro e w' ⟨v,rfl,h,rfl⟩
      exact ⟨v,rfl,Rep.words h,.refl _ _⟩
def nNorm:Spec:=specK [.w] fun (xs:List Int)=>(none,wT (ws (val xs)))
theorem nNorm_ok:SpecOk Tryz.prog 11 nNorm :=
  handK_ok Tryz.func11 rfl (by decide) fun _ _ hC hX _=>fun _ _ _ h _=>nat_back hC hX (norm_calls (rep_natAt h))
def nGreat:Spec:=specK [.w] fun (xs:List Int)=>(none,bT (greatB (val xs)))
theorem nGreat_ok:SpecOk Tryz.prog 65 nGreat :=
  handK_ok Tryz.func65 rfl (by decide) fun _ _ _ _ _=>fun _ _ _ h _=>bool_back (quiet_back (great_calls (rep_natAt h)))
def nOf:Spec:=specK [.i .u64] fun (x:Int)=>(some (Word x),wT (ws x))
theorem nOf_ok:SpecOk Tryz.prog 33 nOf :=
  handK_ok Tryz.func33 rfl (by decide) fun _ _ hC hX _=>fun _ _ v h hp=>by
    obtain rfl:=repS_int h
    exact nat_back hC hX (of3_calls _ _ hp)
def nLen:Spec:=specK [.w] fun (xs:List Int)=>(none,iT (blen (val xs)))
theorem nLen_ok:SpecOk Tryz.prog 100 nLen :=
  handK_ok Tryz.func100 rfl (by decide) fun _ _ _ _ _=>fun _ _ _ h _=>int_back (len3_calls (rep_natAt h))
def nLow:Spec:=specK [.w] fun (xs:List Int)=>(none,iT (tz (val xs)))
theorem nLow_ok:SpecOk Tryz.prog 63 nLow :=
  handK_ok Tryz.func63 rfl (by decide) fun _ _ _ _ _=>fun _ _ _ h _=>int_back (low3_calls (rep_natAt h))
def nCmp:Spec:=specK [.w,.w] fun (xs:List Int) (ys:List Int)=>(none,iT (cmpI (val xs) (val ys)))
theorem nCmp_ok:SpecOk Tryz.prog 105 nCmp :=
  handK_ok Tryz.func105 rfl (by decide) fun _ _ _ _ _=>fun _ _ _ h _ _ _ h' _=>int_back (quiet_back (cmp3_calls (rep_natAt h) (rep_natAt h')))
def nSame:Spec:=specK [.w,.w] fun (xs:List Int) (ys:List Int)=>(none,bT (decide (xs=ys)))
theorem nSame_ok:SpecOk Tryz.prog 10 nSame :=
  handK_ok Tryz.func10 rfl (by decide) fun _ _ _ _ _=>fun _ _ _ h _ _ _ h' _=>bool_back (same3_calls (rep_natAt h) (rep_natAt h'))
def nAdd:Spec:=specK [.w,.w] fun (xs:List Int) (ys:List Int)=>(some (xs.length≤17592186044414∧ys.length≤17592186044414),wT (ws (val xs+val ys)))
theorem nAdd_ok:SpecOk Tryz.prog 104 nAdd :=
  handK_ok Tryz.func104 rfl (by decide) fun _ _ hC hX _=>fun _ _ _ h _ _ _ h' hp=>nat_back hC hX (add3_calls (rep_natAt h) (rep_natAt h') hp.1 hp.2)
def nSub:Spec:=specK [.w,.w] fun (xs:List Int) (ys:List Int)=>(some (val ys≤val xs∧xs.length≤17592186044414∧ys.length≤17592186044414),wT (ws (val xs-val ys)))
theorem nSub_ok:SpecOk Tryz.prog 106 nSub :=
  handK_ok Tryz.func106 rfl (by decide) fun _ _ hC hX _=>fun _ _ _ h _ _ _ h' hp=>nat_back hC hX (sub3_calls (rep_natAt h) (rep_natAt h') hp.2.1 hp.2.2 hp.1)
def nMul:Spec:=specK [.w,.w] fun (xs:List Int) (ys:List Int)=>(some ((ws (val xs)).length+(ws (val ys)).length≤17592186044414),wT (ws (val xs*val ys)))
theorem nMul_ok:SpecOk Tryz.prog 107 nMul :=
  handK_ok Tryz.func107 rfl (by decide) fun _ _ hC hX _=>fun _ _ _ h _ _ _ h' hp=>nat_back hC hX (mul3_calls (rep_natAt h) (rep_natAt h') hp)
def nShl:Spec:=specK [.w,.i .i64] fun (xs:List Int) (n:Int)=>(some (0≤n∧n≤1099511627776∧xs.length≤8796093022208),wT (ws (val xs*2^n.toNat)))
theorem nShl_ok:SpecOk Tryz.prog 103 nShl :=
  handK_ok Tryz.func103 rfl (by decide) fun _ _ hC hX _=>fun _ _ _ h n _ v h' hp=>by
    obtain rfl:=repS_int h'
    exact nat_back hC hX (shl3_calls n (rep_natAt h) hp.1 hp.2.1 hp.2.2)
def nShr:Spec:=specK [.w,.i .i64] fun (xs:List Int) (n:Int)=>(some (0≤n∧n≤9007199254740992),.tup [.one (.words true (ws (val xs/2^n.toNat))),.one (.bool (lostB (val xs) n.toNat))])
theorem nShr_ok:SpecOk Tryz.prog 64 nShr :=
  handK_ok Tryz.func64 rfl (by decide) fun _ _ hC hX _=>fun _ _ _ h n _ v h' hp=>by
    obtain rfl:=repS_int h'
    exact natB_back hC hX (shr3_calls n (rep_natAt h) hp.1 hp.2)
def sLimbs:List (FuncId×Spec):=[(114,lLen),(97,lLow),(83,lOf),(82,lCmp),(116,lAdd),(126,lSub),(117,lMul),(115,lShl),
  (98,lShr),(125,lShort),(86,lTrim)]
theorem sLimbs_ok:SpecsOk Tryz.prog sLimbs:=⟨lLen_ok,lLow_ok,lOf_ok,lCmp_ok,lAdd_ok,lSub_ok,lMul_ok,lShl_ok,lShr_ok,lShort_ok,lTrim_ok,trivial⟩
def sRef3:List (FuncId×Spec):=[(11,nNorm),(65,nGreat),(33,nOf),(100,nLen),(63,nLow),(105,nCmp),(10,nSame),
  (104,nAdd),(106,nSub),(107,nMul),(103,nShl),(64,nShr)]
theorem sRef3_ok:SpecsOk Tryz.prog sRef3:=⟨nNorm_ok,nGreat_ok,nOf_ok,nLen_ok,nLow_ok,nCmp_ok,nSame_ok,nAdd_ok,nSub_ok,nMul_ok,nShl_ok,nShr_ok,trivial⟩
theorem eqI_true{a b:Int}:eqI a b=true↔a=b:=by simp [eqI]
theorem eqI_false{a b:Int}:eqI a b=false↔a≠b:=by simp [eqI]
theorem neI_true{a b:Int}:neI a b=true↔a≠b:=by simp [neI]
theorem neI_false{a b:Int}:neI a b=false↔a=b:=by simp [neI]
theorem ltI_true{a b:Int}:ltI a b=true↔a<b:=by simp [ltI]
theorem ltI_false{a b:Int}:ltI a b=false↔¬ a<b:=by simp [ltI]
theorem leI_true{a b:Int}:leI a b=true↔a≤b:=by simp [leI]
theorem leI_false{a b:Int}:leI a b=false↔¬ a≤b:=by simp [leI]
theorem WfW.val0{xs:List Int}(h:WfW xs):0≤val xs:=val_nonneg h.1
theorem Dx.Wf.m0{d:Dx}(h:d.Wf):0≤d.m:=val_nonneg h.1
theorem len_zero{n:Int}(h:0≤n):eqI ((ws n).length:Nat) 0=decide (n=0):=by
  rw [Bool.eq_iff_iff,eqI_true,decide_eq_true_eq,←ws_eq_nil h,←List.length_eq_zero_iff];omega
theorem len_pos{n:Int}(h:0≤n):ltI 0 ((ws n).length:Nat)=decide (n≠0):=by
  rw [Bool.eq_iff_iff,ltI_true,decide_eq_true_eq,ne_eq,←ws_eq_nil h,←List.length_eq_zero_iff];omega
def rForm:Spec:=specK [.b,.w,.i .i64] fun (neg:Bool) (xs:List Int) (e:Int)=>(some (-4611686018427387904≤e∧e≤4611686018427387904),dT (mkD neg (val xs) e))
theorem rForm_vc(neg:Bool)(xs:List Int)(e:Int)(Q:Tv→Prop):execF ⟨tys,sLimbs⟩ (fun _=>none) 0 Tryz.f56 [.one (.bool neg),.one (.words false xs),.one (.int .i64 e)] Q=(br (eqI (↑(List.length (ws (val xs))):Int) 0) (Q (Tv.sv (Sv.agg [At.bool false,At.words true [],At.int IntKind.i64 0]))) (((0:Int)≤(↑(tz (val (ws (val xs)))):Int)∧(↑(tz (val (ws (val xs)))):Int)≤9007199254740992)∧inR (e+(↑(tz (val (ws (val xs)))):Int))∧Q (Tv.sv (Sv.agg [At.bool neg,At.words true (ws (val (ws (val xs))/2^Int.toNat (↑(tz (val (ws (val xs)))):Int))),At.int IntKind.i64 (e+(↑(tz (val (ws (val xs)))):Int))])))):=by kernel_rfl
theorem rForm_ok:SpecOk Tryz.prog 56 rForm :=
  specK_ok (envOk tys_ok sLimbs_ok) mixed Tryz.func56 rfl (by decide) (by decide) fun neg _ xs hxs (e:Int) _ hp=>⟨fun _=>none,0,by
    have h0:-4611686018427387904≤e:=hp.1
    have h1:e≤4611686018427387904:=hp.2
    have hv:=WfW.val0 hxs
    have ht:=tz_small hxs.1 hxs.2
    refine (rForm_vc neg xs e _).mpr (br_intro (fun h=>?_) (fun h=>?_))
    · rw [len_zero hv,decide_eq_true_eq] at h
      show _=dT (mkD neg (val xs) e)
      rw [h,mkD_zero]
      rfl
    · rw [len_zero hv,decide_eq_false_iff_not] at h
      rw [val_ws hv]
      refine ⟨⟨by omega,by omega⟩,⟨by omega,by omega⟩,?_⟩
      show _=dT (mkD neg (val xs) e)
      rw [mkD,if_neg h,Int.toNat_natCast]
      rfl⟩
def rZero:Spec:=specK [.d] fun (d:Dx)=>(none,bT d.zeroB)
theorem rZero_vc(d:Dx)(Q:Tv→Prop):execF ⟨tys,sLimbs⟩ (fun _=>none) 0 Tryz.f52 [.agg (dyL false d)] Q=(Q (Tv.sv (Sv.one (At.bool (eqI (↑(List.length (ws (val d.xs))):Int) 0))))):=by kernel_rfl
theorem rZero_ok:SpecOk Tryz.prog 52 rZero :=
  specK_ok (envOk tys_ok sLimbs_ok) mixed Tryz.func52 rfl (by decide) (by decide) fun (d:Dx) hd _=>⟨fun _=>none,0,by
    refine (rZero_vc d _).mpr ?_
    show _=bT d.zeroB
    rw [len_zero (WfW.val0 hd)]
    rfl⟩
def rFits:Spec:=specK [.d] fun (d:Dx)=>(none,bT d.fitsB)
theorem rFits_vc(d:Dx)(Q:Tv→Prop):execF ⟨tys,sLimbs⟩ (fun _=>none) 0 Tryz.f85 [.agg (dyL false d)] Q=(br (leI (↑(List.length (ws (val d.xs))):Int) 1024) (br (leI (-32768) d.e) (Q (Tv.sv (Sv.one (At.bool (leI d.e 32768))))) (Q (Tv.sv (Sv.one (At.bool false))))) (Q (Tv.sv (Sv.one (At.bool false))))):=by kernel_rfl
theorem rFits_ok:SpecOk Tryz.prog 85 rFits :=
  specK_ok (envOk tys_ok sLimbs_ok) mixed Tryz.func85 rfl (by decide) (by decide) fun (d:Dx) hd _=>⟨fun _=>none,0,by
    refine (rFits_vc d _).mpr (br_intro (fun h=>br_intro (fun h'=>?_) fun h'=>?_) fun h=>?_)
    · show _=bT d.fitsB
      have e1:greatB d.m=false:=by rw [leI_true] at h;unfold greatB Dx.m;simp;omega
      rw [leI_true] at h'
      unfold Dx.fitsB;rw [e1];simp only [leI,h',decide_true,Bool.not_false,Bool.true_and]
    · show _=bT d.fitsB
      rw [leI_false] at h'
      unfold Dx.fitsB;simp only [h',decide_false,Bool.and_false,Bool.false_and]
    · show _=bT d.fitsB
      have e1:greatB d.m=true:=by rw [leI_false] at h;unfold greatB Dx.m;simp;omega
      unfold Dx.fitsB;rw [e1];rfl⟩
theorem blen_wf{xs:List Int}(h:WfW xs):blen (val xs)≤1125899906842560:=blen_small h.1 h.2
theorem Dx.Wf.blen{d:Dx}(h:d.Wf):blen d.m≤1125899906842560:=blen_small h.1 h.2
def rTop:Spec:=specK [.d] fun (d:Dx)=>(some (-2305843009213693952≤d.e∧d.e≤2305843009213693952),iT (d.e+blen d.m-1))
theorem rTop_vc(d:Dx)(Q:Tv→Prop):execF ⟨tys,sLimbs⟩ (fun _=>none) 0 Tryz.f80 [.agg (dyL false d)] Q=(inR (d.e+(↑(blen (val d.xs)):Int))∧inR (d.e+(↑(blen (val d.xs)):Int)-1)∧true=true∧Q (Tv.sv (Sv.one (At.int IntKind.i64 (d.e+(↑(blen (val d.xs)):Int)-1))))):=by kernel_rfl
theorem rTop_ok:SpecOk Tryz.prog 80 rTop :=
  specK_ok (envOk tys_ok sLimbs_ok) mixed Tryz.func80 rfl (by decide) (by decide) fun (d:Dx) hd hp=>⟨fun _=>none,0,by
    have h0:-2305843009213693952≤Dx.e d:=hp.1
    have h1:Dx.e d≤2305843009213693952:=hp.2
    have hb:=Dx.Wf.blen hd
    unfold Dx.m at hb
    refine (rTop_vc d _).mpr ⟨⟨by omega,by omega⟩,⟨by omega,by omega⟩,rfl,rfl⟩⟩
def rAmounts:Spec:=specK [.d,.d] fun (d:Dx) (d':Dx)=>(some (d.Sm 274877906944∧d'.Sm 274877906944),
  .tup [.one (.words true (ws (d.m*2^(d.e-min d.e d'.e).toNat))),.one (.words true (ws (d'.m*2^(d'.e-min d.e d'.e).toNat))),.one (.int .i64 (min d.e d'.e))])
theorem minI_eq(a b:Int):minI a b=min a b:=by unfold minI;omega
theorem ws_blen{n:Int}{k:Nat}(h0:0≤n)(h:blen n≤64*k):(ws n).length≤k:=by have:=ws_len_blen h0;omega
theorem rAmounts_vc(d d':Dx)(Q:Tv→Prop):execF ⟨tys,sLimbs⟩ (fun _=>none) 0 Tryz.f81 [.agg (dyL false d),.agg (dyL false d')] Q=(inR (d.e-minI d.e d'.e)∧((0:Int)≤d.e-minI d.e d'.e∧d.e-minI d.e d'.e≤1099511627776∧List.length (ws (val d.xs))≤8796093022208)∧inR (d'.e-minI d.e d'.e)∧((0:Int)≤d'.e-minI d.e d'.e∧d'.e-minI d.e d'.e≤1099511627776∧List.length (ws (val d'.xs))≤8796093022208)∧true=true∧Q (Tv.tup [Sv.one (At.words true (ws (val d.xs*2^Int.toNat (d.e-minI d.e d'.e)))),Sv.one (At.words true (ws (val d'.xs*2^Int.toNat (d'.e-minI d.e d'.e)))),Sv.one (At.int IntKind.i64 (minI d.e d'.e))])):=by kernel_rfl
theorem rAmounts_ok:SpecOk Tryz.prog 81 rAmounts :=
  specK_ok (envOk tys_ok sLimbs_ok) mixed Tryz.func81 rfl (by decide) (by decide) fun (d:Dx) hd (d':Dx) hd' hp=>⟨fun _=>none,0,by
    obtain ⟨⟨s1,s2,s3⟩,s4,s5,s6⟩:Dx.Sm 274877906944 d∧Dx.Sm 274877906944 d':=hp
    have l1:=ws_blen (k:=8796093022208) (Dx.Wf.m0 hd) (by omega)
    have l2:=ws_blen (k:=8796093022208) (Dx.Wf.m0 hd') (by omega)
    refine (rAmounts_vc d d' _).mpr ?_
    rw [minI_eq]
    exact ⟨⟨by omega,by omega⟩,⟨by omega,by omega,l1⟩,⟨by omega,by omega⟩,⟨by omega,by omega,l2⟩,rfl,rfl⟩⟩
def sRaw1:List (FuncId×Spec):=[(56,rForm),(52,rZero),(85,rFits),(80,rTop),(81,rAmounts)] ++ sLimbs
theorem sRaw1_ok:SpecsOk Tryz.prog sRaw1:=⟨rForm_ok,rZero_ok,rFits_ok,rTop_ok,rAmounts_ok,sLimbs_ok⟩
def rOne:Spec:=specK [.d] fun (d:Dx)=>(some (-4611686018427387904≤d.e∧d.e≤4611686018427387904),dT (oneD d))
theorem rOne_vc(d:Dx)(Q:Tv→Prop):execF ⟨tys,sRaw1⟩ (fun _=>none) 0 Tryz.f22 [.agg (dyL false d)] Q=(((-4611686018427387904:Int)≤d.e∧d.e≤4611686018427387904)∧Q (Tv.sv (Sv.agg [At.bool (mkD d.neg (val d.xs) d.e).neg,At.words true (mkD d.neg (val d.xs) d.e).xs,At.int IntKind.i64 (mkD d.neg (val d.xs) d.e).e]))):=by kernel_rfl
theorem rOne_ok:SpecOk Tryz.prog 22 rOne :=
  specK_ok (envOk tys_ok sRaw1_ok) mixed Tryz.func22 rfl (by decide) (by decide) fun (d:Dx) hd hp=>⟨fun _=>none,0,(rOne_vc d _).mpr ⟨hp,rfl⟩⟩
def rNeg:Spec:=specK [.d] fun (d:Dx)=>(some (-4611686018427387904≤d.e∧d.e≤4611686018427387904),dT (negD d))
theorem rNeg_vc(d:Dx)(Q:Tv→Prop):execF ⟨tys,sRaw1⟩ (fun _=>none) 0 Tryz.f120 [.agg (dyL false d)] Q=(((-4611686018427387904:Int)≤d.e∧d.e≤4611686018427387904)∧Q (Tv.sv (Sv.agg [At.bool (mkD (!d.neg) (val d.xs) d.e).neg,At.words true (mkD (!d.neg) (val d.xs) d.e).xs,At.int IntKind.i64 (mkD (!d.neg) (val d.xs) d.e).e]))):=by kernel_rfl
theorem rNeg_ok:SpecOk Tryz.prog 120 rNeg :=
  specK_ok (envOk tys_ok sRaw1_ok) mixed Tryz.func120 rfl (by decide) (by decide) fun (d:Dx) hd hp=>⟨fun _=>none,0,(rNeg_vc d _).mpr ⟨hp,rfl⟩⟩
def absD(d:Dx):Dx:=mkD false d.m d.e
def rAbs:Spec:=specK [.d] fun (d:Dx)=>(some (-4611686018427387904≤d.e∧d.e≤4611686018427387904),dT (absD d))
theorem rAbs_vc(d:Dx)(Q:Tv→Prop):execF ⟨tys,sRaw1⟩ (fun _=>none) 0 Tryz.f48 [.agg (dyL false d)] Q=(((-4611686018427387904:Int)≤d.e∧d.e≤4611686018427387904)∧Q (Tv.sv (Sv.agg [At.bool (mkD false (val d.xs) d.e).neg,At.words true (mkD false (val d.xs) d.e).xs,At.int IntKind.i64 (mkD false (val d.xs) d.e).e]))):=by kernel_rfl
theorem rAbs_ok:SpecOk Tryz.prog 48 rAbs :=
  specK_ok (envOk tys_ok sRaw1_ok) mixed Tryz.func48 rfl (by decide) (by decide) fun (d:Dx) hd hp=>⟨fun _=>none,0,(rAbs_vc d _).mpr ⟨hp,rfl⟩⟩
def shiftD(d:Dx)(n:Int):Dx:=mkD d.neg d.m (d.e+n)
def rShift:Spec:=specK [.d,.i .i64] fun (d:Dx) (n:Int)=>(some (-2305843009213693952≤d.e∧d.e≤2305843009213693952∧-2305843009213693952≤n∧n≤2305843009213693952),dT (shiftD d n))
theorem rShift_vc(d:Dx)(n:Int)(Q:Tv→Prop):execF ⟨tys,sRaw1⟩ (fun _=>none) 0 Tryz.f119 [.agg (dyL false d),.one (.int .i64 n)] Q=(inR (d.e+n)∧((-4611686018427387904:Int)≤d.e+n∧d.e+n≤4611686018427387904)∧Q (Tv.sv (Sv.agg [At.bool (mkD d.neg (val d.xs) (d.e+n)).neg,At.words true (mkD d.neg (val d.xs) (d.e+n)).xs,At.int IntKind.i64 (mkD d.neg (val d.xs) (d.e+n)).e]))):=by kernel_rfl
theorem rShift_ok:SpecOk Tryz.prog 119 rShift :=
  specK_ok (envOk tys_ok sRaw1_ok) mixed Tryz.func119 rfl (by decide) (by decide) fun (d:Dx) hd (n:Int) _ hp=>⟨fun _=>none,0,by
    obtain ⟨h1,h2,h3,h4⟩:(-2305843009213693952≤Dx.e d∧Dx.e d≤2305843009213693952∧-2305843009213693952≤(n:Int)∧(n:Int)≤2305843009213693952):=hp
    have e0:-4611686018427387904≤Dx.e d+n:=by omega
    have e1:Dx.e d+n≤4611686018427387904:=by omega
    exact (rShift_vc d n _).mpr ⟨⟨by omega,by omega⟩,⟨e0,e1⟩,rfl⟩⟩
def rSign:Spec:=specK [.d] fun (d:Dx)=>(none,iT d.sgn)
theorem rSign_vc(d:Dx)(Q:Tv→Prop):execF ⟨tys,sRaw1⟩ (fun _=>none) 0 Tryz.f79 [.agg (dyL false d)] Q=(br (Dx.zeroB d) (Q (Tv.sv (Sv.one (At.int IntKind.i64 0)))) (br d.neg (Q (Tv.sv (Sv.one (At.int IntKind.i64 (-1))))) (Q (Tv.sv (Sv.one (At.int IntKind.i64 1)))))):=by kernel_rfl
def rMul:Spec:=specK [.d,.d] fun (d:Dx) (d':Dx)=>(some (d.Sm 274877906944∧d'.Sm 274877906944),dT (timesD d d'))
theorem rSign_ok:SpecOk Tryz.prog 79 rSign :=
  specK_ok (envOk tys_ok sRaw1_ok) mixed Tryz.func79 rfl (by decide) (by decide) fun (d:Dx) hd _=>⟨fun _=>none,0,by
    refine (rSign_vc d _).mpr (br_intro (fun h=>?_) (fun h=>br_intro (fun h'=>?_) fun h'=>?_))
    · show _=iT d.sgn
      rw [Dx.sgn,if_pos (by simpa [Dx.zeroB] using h)]
    · show _=iT d.sgn
      rw [Dx.sgn,if_neg (by simpa [Dx.zeroB] using h),if_pos h']
    · show _=iT d.sgn
      rw [Dx.sgn,if_neg (by simpa [Dx.zeroB] using h),if_neg (by simp [h'])]⟩
theorem rMul_vc(d d':Dx)(Q:Tv→Prop):execF ⟨tys,sRaw1⟩ (fun _=>none) 0 Tryz.f87 [.agg (dyL false d),.agg (dyL false d')] Q=(List.length (ws (val d.xs))+List.length (ws (val d'.xs))≤17592186044415∧inR (d.e+d'.e)∧((-4611686018427387904:Int)≤d.e+d'.e∧d.e+d'.e≤4611686018427387904)∧true=true∧Q (Tv.sv (Sv.agg [At.bool (mkD (!d.neg == d'.neg) (val (ws (val d.xs*val d'.xs))) (d.e+d'.e)).neg,At.words true (mkD (!d.neg == d'.neg) (val (ws (val d.xs*val d'.xs))) (d.e+d'.e)).xs,At.int IntKind.i64 (mkD (!d.neg == d'.neg) (val (ws (val d.xs*val d'.xs))) (d.e+d'.e)).e]))):=by kernel_rfl
theorem rMul_ok:SpecOk Tryz.prog 87 rMul :=
  specK_ok (envOk tys_ok sRaw1_ok) mixed Tryz.func87 rfl (by decide) (by decide) fun (d:Dx) hd (d':Dx) hd' hp=>⟨fun _=>none,0,by
    obtain ⟨⟨s1,s2,s3⟩,s4,s5,s6⟩:Dx.Sm 274877906944 d∧Dx.Sm 274877906944 d':=hp
    have l1:=ws_blen (k:=8796093022207) (Dx.Wf.m0 hd) (by omega)
    have l2:=ws_blen (k:=8796093022207) (Dx.Wf.m0 hd') (by omega)
    unfold Dx.m at l1 l2
    have hv:0≤val d.xs*val d'.xs:=Int.mul_nonneg (WfW.val0 hd) (WfW.val0 hd')
    refine (rMul_vc d d' _).mpr ?_
    rw [val_ws hv]
    exact ⟨by omega,⟨by omega,by omega⟩,⟨by omega,by omega⟩,rfl,rfl⟩⟩
theorem word_one:Word 1:=⟨by omega,by omega⟩
theorem ws_one:ws 1 = [1]:=by rw [ws_pos (by omega),ws_nonpos (by omega)];rfl
theorem val_ws_one:val (ws 1)=1:=val_ws (by omega)
def sRaw2:List (FuncId×Spec):=[(22,rOne),(120,rNeg),(48,rAbs),(119,rShift),(79,rSign),(87,rMul)] ++ sRaw1
theorem sRaw2_ok:SpecsOk Tryz.prog sRaw2:=⟨rOne_ok,rNeg_ok,rAbs_ok,rShift_ok,rSign_ok,rMul_ok,sRaw1_ok⟩
theorem zeroB_true{d:Dx}:d.zeroB=true↔d.m=0:=by simp [Dx.zeroB]
theorem zeroB_false{d:Dx}:d.zeroB=false↔d.m≠0:=by simp [Dx.zeroB]
theorem one_m0{d:Dx}(h:0≤d.m):0≤(oneD d).m:=by
  unfold oneD;rw [mkD_m h];exact Int.ediv_nonneg h (by have:=two_pow_pos (tz d.m);omega)
theorem one_sm{d:Dx}{N:Nat}(hd:0≤d.m)(h:d.Sm N):(oneD d).Sm (N+N):=mkD_sm hd h.1 h.2.1 h.2.2
theorem cmpI_ge{a b:Int}:leI 0 (cmpI a b)=true↔b≤a:=by
  rw [leI_true];unfold cmpI;split
  · omega
  · split<;>omega
def rCut:Spec:=specK [.d,.i .i64,.b] fun (d:Dx) (p:Int) (up:Bool)=>(some (d.Sm 34359738368∧0≤p∧p≤1099511627776),dT (cutD d p up))
theorem rCut_vc(d:Dx)(p:Int)(up:Bool)(Q:Tv→Prop):execF ⟨tys,sRaw2⟩ (fun _=>none) 0 Tryz.f84 [.agg (dyL false d),.one (.int .i64 p),.one (.bool up)] Q=(((-4611686018427387904:Int)≤d.e∧d.e≤4611686018427387904)∧inR ((↑(blen (val (oneD d).xs)):Int)-p)∧br (leI ((↑(blen (val (oneD d).xs)):Int)-p) 0) (Q (Tv.sv (Sv.agg (dyL true (oneD d))))) (((0:Int)≤(↑(blen (val (oneD d).xs)):Int)-p∧(↑(blen (val (oneD d).xs)):Int)-p≤9007199254740992)∧br (!up == (oneD d).neg) (Word 1∧(List.length (ws (val (oneD d).xs/2^Int.toNat ((↑(blen (val (oneD d).xs)):Int)-p)))≤17592186044414∧List.length (ws 1)≤17592186044414)∧inR ((oneD d).e+((↑(blen (val (oneD d).xs)):Int)-p))∧((-4611686018427387904:Int)≤(oneD d).e+((↑(blen (val (oneD d).xs)):Int)-p)∧(oneD d).e+((↑(blen (val (oneD d).xs)):Int)-p)≤4611686018427387904)∧Q (Tv.sv (Sv.agg (dyL true (mkD (oneD d).neg (val (ws (val (ws (val (oneD d).xs/2^Int.toNat ((↑(blen (val (oneD d).xs)):Int)-p)))+val (ws 1)))) ((oneD d).e+((↑(blen (val (oneD d).xs)):Int)-p))))))) (inR ((oneD d).e+((↑(blen (val (oneD d).xs)):Int)-p))∧((-4611686018427387904:Int)≤(oneD d).e+((↑(blen (val (oneD d).xs)):Int)-p)∧(oneD d).e+((↑(blen (val (oneD d).xs)):Int)-p)≤4611686018427387904)∧Q (Tv.sv (Sv.agg (dyL true (mkD (oneD d).neg (val (ws (val (oneD d).xs/2^Int.toNat ((↑(blen (val (oneD d).xs)):Int)-p)))) ((oneD d).e+((↑(blen (val (oneD d).xs)):Int)-p))))))))):=by kernel_rfl
theorem rCut_ok:SpecOk Tryz.prog 84 rCut :=
  specK_ok (envOk tys_ok sRaw2_ok) mixed Tryz.func84 rfl (by decide) (by decide) fun (d:Dx) hd (p:Int) _ (up:Bool) _ hp=>⟨fun _=>none,0,by
    obtain ⟨s1,p0,p1⟩:Dx.Sm 34359738368 d∧0≤p∧p≤1099511627776:=hp
    have m1:=one_m0 (Dx.Wf.m0 hd)
    obtain ⟨z1,z2,z3⟩:=one_sm (Dx.Wf.m0 hd) s1
    have b1:=s1.2
    refine (rCut_vc d p up _).mpr ?_
    show _∧_
    unfold Dx.m at m1 z1
    generalize hn:((blen (val (oneD d).xs):Int)-p)=n
    have hq:0≤val (oneD d).xs/2^n.toNat:=Int.ediv_nonneg m1 (by have:=two_pow_pos n.toNat;omega)
    have hql:(ws (val (oneD d).xs/2^n.toNat)).length≤1073741825:=ws_blen hq (by
      have:=blen_mono (m:=val (oneD d).xs/2^n.toNat) (n:=val (oneD d).xs) (Int.ediv_le_self _ m1);omega)
    have goal:cutD d p up=if n≤0 then oneD d else mkD (oneD d).neg (val (oneD d).xs/2^n.toNat+if up == (oneD d).neg then 0 else 1) ((oneD d).e+n):=by
      rw [←hn];rfl
    refine ⟨⟨by omega,by omega⟩,⟨by omega,by omega⟩,br_intro (fun h=>?_) fun h=>⟨⟨by rw [leI_false] at h;omega,by omega⟩,br_intro (fun h'=>?_) fun h'=>?_⟩⟩
    · show _=dT (cutD d p up)
      rw [goal,if_pos (leI_true.1 h)]
    · rw [val_ws hq,val_ws_one,val_ws (by omega)]
      refine ⟨word_one,⟨by omega,by simp [ws_one]⟩,⟨by omega,by omega⟩,⟨by omega,by omega⟩,?_⟩
      show _=dT (cutD d p up)
      rw [goal,if_neg (leI_false.1 h),if_neg (by cases up<;>cases hh:(oneD d).neg<;>simp_all)]
    · rw [val_ws hq]
      refine ⟨⟨by omega,by omega⟩,⟨by omega,by omega⟩,?_⟩
      show _=dT (cutD d p up)
      rw [goal,if_neg (leI_false.1 h),if_pos (by cases up<;>cases hh:(oneD d).neg<;>simp_all),Int.add_zero]⟩
def rCmp:Spec:=specK [.d,.d] fun (a:Dx) (b:Dx)=>(some (a.Sm 68719476736∧b.Sm 68719476736),iT (cmpD a b))
theorem rCmp_vc(a b:Dx)(Q:Tv→Prop):execF ⟨tys,sRaw2⟩ (fun _=>none) 0 Tryz.f47 [.agg (dyL false a),.agg (dyL false b)] Q=(true=true∧br (ltI (Dx.sgn a) (Dx.sgn b)) (Q (Tv.sv (Sv.one (At.int IntKind.i64 (-1))))) (br (ltI (Dx.sgn b) (Dx.sgn a)) (Q (Tv.sv (Sv.one (At.int IntKind.i64 1)))) (br (eqI (Dx.sgn a) 0) (Q (Tv.sv (Sv.one (At.int IntKind.i64 0)))) (((-2305843009213693952:Int)≤a.e∧a.e≤2305843009213693952)∧((-2305843009213693952:Int)≤b.e∧b.e≤2305843009213693952)∧true=true∧br (neI (a.e+(↑(blen (Dx.m a)):Int)-1) (b.e+(↑(blen (Dx.m b)):Int)-1)) (br (ltI (a.e+(↑(blen (Dx.m a)):Int)-1) (b.e+(↑(blen (Dx.m b)):Int)-1)) (inR ((0:Int)-Dx.sgn a)∧Q (Tv.sv (Sv.one (At.int IntKind.i64 ((0:Int)-Dx.sgn a))))) (Q (Tv.sv (Sv.one (At.int IntKind.i64 (Dx.sgn a)))))) (((-4611686018427387904:Int)≤a.e∧a.e≤4611686018427387904)∧((-4611686018427387904:Int)≤b.e∧b.e≤4611686018427387904)∧(Dx.Sm 274877906944 (oneD a)∧Dx.Sm 274877906944 (oneD b))∧true=true∧inR (Dx.sgn a*cmpI (val (ws (Dx.m (oneD a)*2^Int.toNat ((oneD a).e-min (oneD a).e (oneD b).e)))) (val (ws (Dx.m (oneD b)*2^Int.toNat ((oneD b).e-min (oneD a).e (oneD b).e)))))∧Q (Tv.sv (Sv.one (At.int IntKind.i64 (Dx.sgn a*cmpI (val (ws (Dx.m (oneD a)*2^Int.toNat ((oneD a).e-min (oneD a).e (oneD b).e)))) (val (ws (Dx.m (oneD b)*2^Int.toNat ((oneD b).e-min (oneD a).e (oneD b).e))))))))))))):=by kernel_rfl
theorem rCmp_ok:SpecOk Tryz.prog 47 rCmp :=
  specK_ok (envOk tys_ok sRaw2_ok) mixed Tryz.func47 rfl (by decide) (by decide) fun (a:Dx) ha (b:Dx) hb hp=>⟨fun _=>none,0,by
    obtain ⟨s1,s2⟩:Dx.Sm 68719476736 a∧Dx.Sm 68719476736 b:=hp
    have m1:=Dx.Wf.m0 ha
    have m2:=Dx.Wf.m0 hb
    have z1:=one_sm m1 s1
    have z2:=one_sm m2 s2
    have b1:=s1.2
    have b2:=s2.2
    have c1:=sgn_cases (d:=a)
    refine (rCmp_vc a b _).mpr ⟨rfl,br_intro (fun h=>?_) fun h=>br_intro (fun h'=>?_) fun h'=>br_intro (fun h0=>?_) fun h0=>?_⟩
    · show _=iT (cmpD a b)
      rw [cmpD_lt m1 m2 (ltI_true.1 h)]
    · show _=iT (cmpD a b)
      rw [cmpD_gt m1 m2 (ltI_true.1 h')]
    · rw [ltI_false] at h h';rw [eqI_true] at h0
      show _=iT (cmpD a b)
      rw [cmpD_zero m1 m2 h0 (by omega)]
    · rw [ltI_false] at h h';rw [eqI_false] at h0
      have hs:a.sgn=b.sgn:=by omega
      obtain ⟨t1,t2⟩:=cmpD_top m1 m2 hs h0
      refine ⟨⟨by omega,by omega⟩,⟨by omega,by omega⟩,rfl,br_intro (fun e=>br_intro (fun e'=>?_) fun e'=>?_) fun e=>?_⟩
      · refine ⟨⟨by omega,by omega⟩,?_⟩
        show _=iT (cmpD a b)
        rw [t1 (ltI_true.1 e'),Int.zero_sub]
      · rw [ltI_false] at e';rw [neI_true] at e
        show _=iT (cmpD a b)
        rw [t2 (by omega)]
      · have hm1:=Int.mul_nonneg (one_m0 m1) (show (0:Int)≤2^((oneD a).e-min (oneD a).e (oneD b).e).toNat from by have:=two_pow_pos ((oneD a).e-min (oneD a).e (oneD b).e).toNat;omega)
        have hm2:=Int.mul_nonneg (one_m0 m2) (show (0:Int)≤2^((oneD b).e-min (oneD a).e (oneD b).e).toNat from by have:=two_pow_pos ((oneD b).e-min (oneD a).e (oneD b).e).toNat;omega)
        rw [val_ws hm1,val_ws hm2]
        refine ⟨⟨by omega,by omega⟩,⟨by omega,by omega⟩,⟨z1.mono (by omega),z2.mono (by omega)⟩,rfl,?_,?_⟩
        · generalize (oneD a).m*2^((oneD a).e-min (oneD a).e (oneD b).e).toNat=X
          generalize (oneD b).m*2^((oneD b).e-min (oneD a).e (oneD b).e).toNat=Y
          have:cmpI X Y = -1∨cmpI X Y=0∨cmpI X Y=1:=by unfold cmpI;split<;>(try split)<;>omega
          rcases c1 with c1 | c1 | c1<;>rcases this with c | c | c<;>rw [c1,c]<;>exact ⟨by omega,by omega⟩
        · show _=iT (cmpD a b)
          rw [cmpD_one m1 m2 hs h0]⟩
def sRaw3:List (FuncId×Spec):=[(84,rCut),(47,rCmp)] ++ sRaw2
theorem sRaw3_ok:SpecsOk Tryz.prog sRaw3:=⟨rCut_ok,rCmp_ok,sRaw2_ok⟩
theorem blen_mul{m n:Int}(hm:0≤m)(_:0≤n):blen (m*n)≤blen m+blen n:=by
  refine blen_le ?_
  rw [Int.pow_add]
  have h1:=blen_lt m
  have h2:=blen_lt n
  have p1:=two_pow_pos (blen m)
  exact Int.lt_of_le_of_lt (imL (Int.le_of_lt h2) hm) (Int.mul_lt_mul_of_pos_right h1 (two_pow_pos _))
def sRaw4:List (FuncId×Spec):=[] ++ sRaw3
theorem sRaw4_ok:SpecsOk Tryz.prog sRaw4:=sRaw3_ok
end Go.Proofs.YtbmolijeikedcaaGreatDoor
