import Derived.Test.YtmgahjccidmlaaaGreatXG21
set_option linter.unusedSimpArgs false
set_option linter.unusedVariables false
section
namespace Go.Am.F11
open Go.Am.F06 Go.Am.F10 Go.Am.F09
theorem LI.same{c:Cf} {p w0:Int} {own:List Int} {t:Nat} {s:LS} {xs xs':List Int} (h:LI c p w0 own t s xs) (hok:OkL c xs') (hw:xs'.getD (wrdN c p) 0=xs.getD (wrdN c p) 0) (hs:∀ k:Int,xs'.getD (slotA c p k).toNat 0=xs.getD (slotA c p k).toNat 0):LI c p w0 own t s xs':=by
 have hsl:∀ k,slV c p w0 xs' k=slV c p w0 xs k:=fun k=>by unfold slV;rw[hs]
 obtain⟨h1,h2,h3,h4⟩:=h
 refine⟨hok,hw.trans h2,h3,?_⟩
 rcases h4 with h|⟨i,e1,e2,e3,e4,e5,e6⟩
 ·exact .inl h
 ·exact .inr ⟨i,e1,e2,e3,e4,fun k hk=>by rw[hsl];exact e5 k hk,e6⟩
theorem LI.oth{c:Cf} {p p1 w0:Int} {own:List Int} {t:Nat} {s:LS} {xs xs':List Int} (h:LI c p w0 own t s xs) (hp:thereP c p) (hok:OkL c xs') (ho:Oth c p1 xs xs') (hne:p≠p1):LI c p w0 own t s xs' :=
 LI.same h hok (ho.word hp hne) (fun k=>ho.slot hp hne k)
theorem gain_dW(w:Int) (n:Nat):gainN w n=dW w n:=rfl
theorem ring_empty{c:Cf} {p h:Int} {xs:List Int} (hp:thereP c p) (h0:0≤h) (h1:h < 4294967296) (hw:xs.getD (wrdN c p) 0=pk h h):ringL c p xs=[]:=by
 have hsz:sz (pk h h)=0:=by unfold sz;rw[hd_pk h0 h1,tl_pk h0 h1];omega
 have hb:=there_bounds hp
 have hl:=ring_len hp (xs:=xs) (by rw[hw,hsz];omega)
 rw[hw,hsz] at hl
 exact List.length_eq_zero_iff.1 (by omega)
theorem pos_id{l:List Int} (h:∀ x,x ∈ l→0≤x):posL l=l:=by
 unfold posL
 rw[List.filter_eq_self]
 intro x hx
 have:=h x hx
 simp only[decide_eq_true_eq];omega
def SPh(c:Cf) (H0 h0:Int) (T r:Nat) (s:TS) (xs:List Int) (R:List Int):Prop :=
 (s.k=0∧(s.a=0∨(s.a=1∧30≤r))∧xs.getD (wrdN c 0) 0=pk h0 h0) ∨
 (s.k=0∧(s.a=2∨s.a=3)∧xs.getD (wrdN c 0) 0=pk h0 h0∧sz s.w≤c.q∧(∃ e:Nat,e≤T∧hd s.w=(H0+e) % 4294967296∧(e=T→halfI s.w≤R.length∧s.bl=R.take s.bl.length))∧(if xs.getD (wrdN c 1) 0=s.w then 10 else 50)+(halfI s.w - s.bl.length)≤(r:Int)) ∨
 (0 < s.k∧s.k=s.bl.length∧(∀ x,x ∈ s.bl→0≤x∧x < 9223372036854775808)∧(s.bl.length:Int)≤c.q / 2∧0 < s.bl.tail.length∧s.a=4∧∃ t:Nat,LI c 0 (pk h0 h0) s.bl.tail t s.ly xs∧s.bl.tail.length+2 - t≤r) ∨
 (0 < s.k∧s.k=s.bl.length∧s.a=0∧s.ly.ls=[]∧ringL c 0 xs=s.bl.tail)
variable {c:Cf} {H0 h0:Int} {T r:Nat} {s:TS} {xs xs':List Int} {R R':List Int}
theorem half_q(hp:thereP c 1) (h:sz s.w≤c.q):halfI s.w≤c.q / 2:=by
 have hs:=sz_b s.w
 have hr:roomP c.q:=hp.1.2.1
 unfold halfI
 rcases hr with hr|hr|hr|hr|hr|hr<;>rw[hr] at h ⊢<;>omega
theorem SPh.step (h : SPh c H0 h0 T r s xs R) (hok : TOk c 0 1 s) (hx : OkL c xs) (hp0 : thereP c 0) (hp1 : thereP c 1) (hR : R = ringL c 1 xs) (hq : sz (xs.getD (wrdN c 1) 0) ≤ c.q) (hT : hd (xs.getD (wrdN c 1) 0) = (H0 + T) % 4294967296) (hTb : T < 2147483648) (hq8 : c.q ≤ 8) (hNN : ∀ x, x ∈ R → 0 ≤ x ∧ x < 9223372036854775808) (b0 : 0 ≤ h0) (b1 : h0 < 4294967296) (ha : s.a ≠ 0) :
    (((stepT c 0 1 xs s).1.k = s.k ∧ (0 < s.k → (stepT c 0 1 xs s).1.bl = s.bl) ∧ Oth c 0 xs (stepT c 0 1 xs s).2 ∧ ∃ r', r' < r ∧ SPh c H0 h0 T r' (stepT c 0 1 xs s).1 (stepT c 0 1 xs s).2 R) ∨
     (s.k = 0 ∧ ∃ n : Nat, n = R.length - R.length / 2 ∧ 0 < n ∧ n ≤ R.length ∧ (stepT c 0 1 xs s).1.k = n ∧ (stepT c 0 1 xs s).1.bl = R.take n ∧ handsT (stepT c 0 1 xs s).1 = R.take n ∧ (stepT c 0 1 xs s).2 = dX c 1 xs n ∧ ∃ r', r' < r ∧ SPh c H0 h0 (T + n) r' (stepT c 0 1 xs s).1 (stepT c 0 1 xs s).2 (R.drop n))) := by
  have hb1 := there_bounds hp1
  have hl := ring_len hp1 hq
  rw [← hR] at hl
  have hsw := sz_b (xs.getD (wrdN c 1) 0)
  rcases h with ⟨hk, ha1, hw0⟩ | ⟨hk, ha1, hw0, hsz, ⟨e, heT, hhd, hval⟩, hr⟩ | ⟨hk, hkb, hnn, hbq, htl, ha1, t, hLI, hr⟩ | ⟨hk, hkb, ha1, _⟩
  · obtain ⟨ha1, hr⟩ := ha1.resolve_left ha
    left
    rw [stepT, if_neg ha, if_pos ha1]
    refine ⟨rfl, fun h => by omega, .refl _ _ _, r - 1, by omega, ?_⟩
    by_cases hz : sz (xs.getD (wrdN c 1) 0) = 0 ∨ c.q < sz (xs.getD (wrdN c 1) 0)
    · exact .inl ⟨hk, .inl (by simp only [if_pos hz]), hw0⟩
    · have hh := half_b (xs.getD (wrdN c 1) 0)
      refine .inr (.inl ⟨hk, .inl (by simp only [if_neg hz]), hw0, hq, ⟨T, Nat.le_refl _, hT, fun _ => ⟨?_, rfl⟩⟩, ?_⟩)
      · simp only; omega
      · simp only [if_true, List.length_nil]; omega
  · have hhq := half_q hp1 hsz
    rcases ha1 with ha1 | ha1
    · left
      have hlt : (s.bl.length : Int) < halfI s.w := by
        rcases (hok.a.resolve_left ha).2 with h | h | h | h <;> omega
      rw [stepT, if_neg ha, if_neg (by omega), if_pos ha1]
      refine ⟨rfl, fun h => by omega, .refl _ _ _, r - 1, by split at hr <;> omega, ?_⟩
      refine .inr (.inl ⟨hk, ?_, hw0, hsz, ⟨e, heT, hhd, fun he => ?_⟩, ?_⟩)
      · simp only; split <;> simp
      · obtain ⟨v1, v2⟩ := hval he
        refine ⟨v1, ?_⟩
        have hRl : s.bl.length < R.length := by omega
        have hat : R[s.bl.length]? = some (IntKind.i64.wrap (xs.getD (sslN c 1 s.w s.bl.length) 0)) := by
          have hN : s.bl.length < ringN c (xs.getD (wrdN c 1) 0) := by
            rw [hR, ringL_there hp1, ringW_len] at hRl; exact hRl
          rw [hR, ringL_there hp1, ringW_get _ _ _ _ hN]
          unfold ringAt sslN
          rw [hT, hhd, he]
        simp only [List.length_append, List.length_cons, List.length_nil, Nat.zero_add]
        rw [List.take_add_one, hat, ← v2]; rfl
      · simp only [List.length_append, List.length_cons, List.length_nil]
        split at hr <;> (rename_i hc; simp only [hc, if_true, if_false]; omega)
    · have hfl : (s.bl.length : Int) = halfI s.w ∧ 0 < s.bl.length := by
        rcases (hok.a.resolve_left ha).2 with h | h | h | h
        · omega
        · omega
        · exact h.2.2
        · omega
      by_cases hw : xs.getD (wrdN c 1) 0 = s.w
      · right
        refine ⟨hk, s.bl.length, ?_⟩
        have he : e = T := by rw [hw, hhd] at hT; omega
        obtain ⟨v1, v2⟩ := hval he
        have hlw : (R.length : Int) = sz s.w := by rw [hl, hw]
        have hn : s.bl.length = R.length - R.length / 2 := by
          have := hfl.1
          unfold halfI at this
          omega
        rw [if_pos hw] at hr
        have e1 : stepT c 0 1 xs s = ({ s with k := s.bl.length, ly := newL c 0 s.bl.tail, a := if s.bl.length = 1 then 0 else 4 }, xs.set (wrdN c 1) (gainN s.w (halfI s.w))) := by
          rw [stepT, if_neg ha, if_neg (by omega), if_neg (by omega), if_pos ha1, if_pos hw]
        have e2 : xs.set (wrdN c 1) (gainN s.w (halfI s.w)) = dX c 1 xs s.bl.length := by
          unfold dX; rw [if_neg (by omega), hw, ← gain_dW, hfl.1]
        have hnb : ∀ x, x ∈ s.bl → 0 ≤ x ∧ x < 9223372036854775808 := fun x hx => hNN x (by rw [v2] at hx; exact List.mem_of_mem_take hx)
        have e3 : newL c 0 s.bl.tail = ⟨1, 0, 0, 0, s.bl.tail⟩ := by
          rw [show newL c 0 s.bl.tail = ⟨1, 0, 0, 0, posL s.bl.tail⟩ from if_pos hp0, pos_id fun x hx => (hnb x (List.mem_of_mem_tail hx)).1]
        have ho : Oth c 1 xs (dX c 1 xs s.bl.length) := oth_dX hp1 _
        rw [e1, e2, e3]
        refine ⟨hn, hfl.2, by omega, rfl, v2, ?_, rfl, r - 1, by omega, ?_⟩
        · unfold handsT
          rw [if_neg (by show ¬ ((s.bl.length : Int) = 0); omega), ← v2]
          show s.bl.take 1 ++ s.bl.tail = s.bl
          cases hbl : s.bl with
          | nil => rw [hbl] at hfl; simp at hfl
          | cons y u => rfl
        · by_cases h1 : s.bl.length = 1
          · have ht0 : s.bl.tail = [] := List.length_eq_zero_iff.1 (by rw [List.length_tail]; omega)
            refine .inr (.inr (.inr ⟨by show (0 : Int) < (s.bl.length : Int); omega, rfl, by simp only [if_pos h1], ht0, ?_⟩))
            show ringL c 0 _ = s.bl.tail
            rw [ho.ring hp0 (by decide), ht0]
            exact ring_empty hp0 b0 b1 hw0
          · refine .inr (.inr (.inl ⟨by show (0 : Int) < (s.bl.length : Int); omega, rfl, hnb, by show (s.bl.length : Int) ≤ c.q / 2; omega, by show 0 < s.bl.tail.length; rw [List.length_tail]; omega, by simp only [if_neg h1], 0, ⟨dX_ok hx _, by rw [ho.word hp0 (by decide)]; exact hw0, rfl, .inl ⟨rfl, rfl⟩⟩, ?_⟩))
            show s.bl.tail.length + 2 - 0 ≤ r - 1
            rw [List.length_tail]; omega
      · left
        rw [stepT, if_neg ha, if_neg (by omega), if_neg (by omega), if_pos ha1, if_neg hw]
        rw [if_neg hw] at hr
        exact ⟨rfl, fun h => by omega, .refl _ _ _, r - 1, by omega, .inl ⟨hk, .inr ⟨rfl, by omega⟩, hw0⟩⟩
  · left
    have e1 : stepT c 0 1 xs s = ({ s with ly := (F09.stepL c 0 xs s.ly).1, a := if (F09.stepL c 0 xs s.ly).1.a = 0 then 0 else 4 }, (F09.stepL c 0 xs s.ly).2) := by
      rw [stepT, if_neg ha, if_neg (by omega), if_neg (by omega), if_neg (by omega)]
    have ho : Oth c 0 xs (F09.stepL c 0 xs s.ly).2 := oth_stepL hp0
    have hne := hLI.ne
    rw [e1]
    refine ⟨rfl, fun _ => rfl, ho, r - 1, by omega, ?_⟩
    have htl2 := s.bl.length_tail
    rcases hLI.step hp0 b0 b1 htl (by omega) (fun x hx => hnn x (List.mem_of_mem_tail hx)) with ⟨h1, h2⟩ | ⟨h1, h2, h3, h4, h5⟩
    · exact .inr (.inr (.inl ⟨hk, hkb, hnn, hbq, htl, by simp only [if_neg h1], t + 1, h2, by show s.bl.tail.length + 2 - (t + 1) ≤ r - 1; omega⟩))
    · exact .inr (.inr (.inr ⟨hk, hkb, by simp only [if_pos h1], h3, h5⟩))
  · exact absurd ha1 ha
theorem SPh.put(h:SPh c H0 h0 T r s xs R) (hok:TOk c 0 1 s) (hp0:thereP c 0) (hp1:thereP c 1) (hq8:c.q≤8) (ho:Oth c 1 xs xs') (hx':OkL c xs') (hR:∀ j:Nat,(j:Int)≤c.q / 2→j≤R.length→j≤R'.length∧R'.take j=R.take j):SPh c H0 h0 T 60 s xs' R':=by
 rcases h with⟨hk,ha1,hw0⟩|⟨hk,ha1,hw0,hsz,⟨e,heT,hhd,hval⟩,hr⟩|⟨hk,hkb,hnn,hbq,htl,ha1,t,hLI,hr⟩|⟨hk,hkb,ha1,hls,hri⟩
 ·exact .inl ⟨hk,ha1.imp id (fun h=>⟨h.1,by omega⟩),by rw[ho.word hp0 (by decide)];exact hw0⟩
 ·have hhq:=half_q hp1 hsz
  have hh:=half_b s.w
  have hbh:(s.bl.length:Int)≤halfI s.w:=by
   rcases (hok.a.resolve_left (by omega)).2 with h|h|h|h<;>omega
  refine .inr (.inl ⟨hk,ha1,by rw[ho.word hp0 (by decide)];exact hw0,hsz,⟨e,heT,hhd,fun he=>?_⟩,by split<;>omega⟩)
  obtain⟨v1,v2⟩:=hval he
  obtain⟨u1,_⟩:=hR (halfI s.w).toNat (by omega) (by omega)
  obtain⟨_,u2⟩:=hR s.bl.length (by omega) (by omega)
  exact⟨by omega,v2.trans u2.symm⟩
 ·exact .inr (.inr (.inl ⟨hk,hkb,hnn,hbq,htl,ha1,t,LI.oth hLI hp0 hx' ho (by decide),by have:=s.bl.length_tail;omega⟩))
 ·exact .inr (.inr (.inr ⟨hk,hkb,ha1,hls,by rw[ho.ring hp0 (by decide)];exact hri⟩))
theorem SPh.thief(h:SPh c H0 h0 T r s xs R) (hok:TOk c 0 1 s) (hx:OkL c xs) (hp0:thereP c 0) (hp1:thereP c 1) (hq8:c.q≤8) (n:Nat):SPh c H0 h0 (T+n) 60 s (dX c 1 xs n) (R.drop n):=by
 have ho:Oth c 1 xs (dX c 1 xs n):=oth_dX hp1 n
 have hx':OkL c (dX c 1 xs n):=dX_ok hx n
 by_cases hn:n=0
 ·subst hn
  exact SPh.put h hok hp0 hp1 hq8 ho hx' fun j _ hj=>⟨hj,rfl⟩
 rcases h with⟨hk,ha1,hw0⟩|⟨hk,ha1,hw0,hsz,⟨e,heT,hhd,hval⟩,hr⟩|⟨hk,hkb,hnn,hbq,htl,ha1,t,hLI,hr⟩|⟨hk,hkb,ha1,hls,hri⟩
 ·exact .inl ⟨hk,ha1.imp id (fun h=>⟨h.1,by omega⟩),by rw[ho.word hp0 (by decide)];exact hw0⟩
 ·have hhq:=half_q hp1 hsz
  exact .inr (.inl ⟨hk,ha1,by rw[ho.word hp0 (by decide)];exact hw0,hsz,⟨e,by omega,hhd,fun he=>by omega⟩,by split<;>omega⟩)
 ·exact .inr (.inr (.inl ⟨hk,hkb,hnn,hbq,htl,ha1,t,LI.oth hLI hp0 hx' ho (by decide),by have:=s.bl.length_tail;omega⟩))
 ·exact .inr (.inr (.inr ⟨hk,hkb,ha1,hls,by rw[ho.ring hp0 (by decide)];exact hri⟩))
end Go.Am.F11
end
section
namespace Go.Am.F11
open Go.Am.F06 Go.Am.F10 Go.Am.F09
theorem TQ.mono{m:MM} {P Q P' Q':Nat→Prop} {c:Cf} {p v:Int} {xj:Nat} {s:TS} (h:TQ m P Q c p v xj s) (hP:∀ i,P i→P' i) (hQ:∀ i,Q i→Q' i):TQ m P' Q' c p v xj s:=by
 obtain⟨h0,lyv,bv,h1,h2,h3⟩:=h
 refine⟨hP _ h0,lyv,bv,h1,?_,?_⟩
 ·rcases h2 with h2|⟨cap,⟨qb,L,h4,h5⟩,h6⟩
  ·exact .inl h2
  ·exact .inr ⟨cap,⟨qb,L,hP _ h4,h5⟩,h6⟩
 ·rcases h3 with h3|⟨h4,lb,lxv,h5,h6,h7,h8⟩
  ·exact .inl h3
  ·exact .inr ⟨h4,lb,lxv,h5,hP _ h6,h7,fun q o n cap hv h0=>hQ _ (h8 q o n cap hv h0)⟩
theorem TQ.stay{m m':MM} {P:Nat→Prop} {c:Cf} {p v:Int} {xj:Nat} {s:TS} (h:TQ m P P c p v xj s) (hk:∀ i,i < m.length→P i→m'[i]?=m[i]?):TQ m' P P c p v xj s:=by
 have kg:∀ {i:Nat} {C:Chunk Ob},m[i]?=some C→P i→m'[i]?=some C:=fun hi hp=>(hk _ (List.getElem?_eq_some_iff.1 hi).1 hp).trans hi
 obtain⟨h0,lyv,bv,h1,h2,h3⟩:=h
 refine⟨h0,lyv,bv,kg h1 h0,?_,?_⟩
 ·rcases h2 with h2|⟨cap,⟨qb,L,h4,h5,h6,h7⟩,h8⟩
  ·exact .inl h2
  ·exact .inr ⟨cap,⟨qb,L,h4,h5,kg h6 h4,h7⟩,h8⟩
 ·rcases h3 with h3|⟨h4,lb,lxv,h5,h6,h7,h8⟩
  ·exact .inl h3
  ·refine .inr ⟨h4,lb,lxv,h5,h6,⟨kg h7.get h6,Sl.stay h7.l fun q o cap hv hn=>hk q (Sl.lt h7.l hv hn).1 (h8 q o _ cap hv hn),fun hn=>?_⟩,h8⟩
   rcases h7.nx hn with h9|⟨q,o,n,l,h9,h10⟩
   ·exact .inl h9
   ·have hlen:=h7.l.len
    rw[h9] at hlen;simp only[lenA,Option.some.injEq] at hlen;subst hlen
    exact .inr ⟨q,o,_,l,h9,kg h10 (h8 q o _ none h9 hn)⟩
def Tag(own:Nat→Nat) (t:Nat) (v:AV):Prop:=∀ q o n cap,v = .sl q o n cap→0 < n→own q=t
def newO(own:Nat→Nat) (m m':MM) (t:Nat):Nat→Nat:=fun i=>if m.length≤i∧i < m'.length then t else own i
theorem newO_old{own:Nat→Nat} {m m':MM} {t i:Nat} (h:i < m.length):newO own m m' t i=own i:=if_neg (by omega)
theorem newO_new{own:Nat→Nat} {m m':MM} {t i:Nat} (h:m.length≤i) (h':i < m'.length):newO own m m' t i=t:=if_pos ⟨h,h'⟩
structure Fr1 (own:Nat→Nat) (t:Nat) (m m':MM):Prop where
 l:m.length≤m'.length
 k:∀ i,i < m.length→own i≠t→own i≠5→m'[i]?=m[i]?
theorem Fr1.of{own:Nat→Nat} {t:Nat} {m m':MM} (k:Keep m m'):Fr1 own t m m':=⟨k.1,fun i hi _ _=>k.2 i hi⟩
theorem Tag.row{own:Nat→Nat} {t u:Nat} {m m':MM} {wr:Bool} {xs:List Int} {v:AV} (h:Tag own u v) (hs:SI m wr xs v) (f:Fr1 own t m m') (h1:u≠t) (h2:u≠5):SI m' wr xs v :=
 Sl.stay hs fun q o cap hv h0=>f.k q (Sl.lt hs hv h0).1 (by rw[h q o _ cap hv h0];exact h1) (by rw[h q o _ cap hv h0];exact h2)
theorem Tag.new{own:Nat→Nat} {t u:Nat} {m m':MM} {wr:Bool} {xs:List Int} {v:AV} (h:Tag own u v) (hs:SI m wr xs v):Tag (newO own m m' t) u v:=fun q o n cap hv h0=>by
 have hlen:=hs.len
 rw[hv] at hlen;simp only[lenA,Option.some.injEq] at hlen;subst hlen
 rw[newO_old (Sl.lt hs hv h0).1];exact h q o _ cap hv h0
theorem Tag.fr{own:Nat→Nat} {t:Nat} {m m':MM} {wr:Bool} {xs:List Int} {v:AV} (hf:Fr m.length v) (hs:SI m' wr xs v):Tag (newO own m m' t) t v:=fun q o n cap hv h0=>by
 have hlen:=hs.len
 rw[hv] at hlen;simp only[lenA,Option.some.injEq] at hlen;subst hlen
 rcases hf with h|⟨_,_,_,_,h,h'⟩
 ·rw[h] at hv;cases hv
 ·rw[h] at hv;injection hv with e1
  exact newO_new (by omega) (Sl.lt hs (by rw[h];congr 1) h0).1
structure KB (M0:MM) (c:Cf) (bb j:Nat) (own:Nat→Nat) (xs:List Int) (m:MM):Prop where
 low:∀ i,i < M0.length→own i=0
 hig:∀ i,m.length≤i→own i=0
 k0:Keep M0 m
 box:m[bb]?=some (.cells 6 false (cfC c))
 ob:own bb=6
 oj:own j=5
 mem:∃ st o,m[j]?=some (.abs (.mem st))∧RelM xs o st
 okL:OkL c xs
structure KT (c:Cf) (xj:Nat) (own:Nat→Nat) (s:TS) (m:MM):Prop where
 tq:TQ m (fun i=>own i=1) (fun i=>own i=1) c 0 1 xj s
 ok:TOk c 0 1 s
structure KP (c:Cf) (pj:Nat) (g:Int) (own:Nat→Nat) (s:PS) (m:MM):Prop where
 get:∃ qt tv hv,PM m pj c 1 g s qt tv hv∧own pj=2∧own qt=2∧Tag own 2 hv
 ok:POk c 1 s
structure KR (u:Nat) (own:Nat→Nat) (xs:List Int) (v:AV) (m:MM):Prop where
 get:∃ q,Rw m q xs.length 1 (iC xs) v∧(0 < xs.length→own q=u)
variable {M0 m m':MM} {c:Cf} {bb j xj pj:Nat} {g:Int} {own:Nat→Nat} {s:TS} {ps:PS} {xs xs':List Int} {t u:Nat} {v:AV} {l:List Int}
theorem KB.tr(h:KB M0 c bb j own xs m) (f:Fr1 own t m m') (h6:t≠6) (h0:t≠0) (hmem:∃ st o,m'[j]?=some (.abs (.mem st))∧RelM xs' o st) (hok:OkL c xs'):KB M0 c bb j (newO own m m' t) xs' m':=by
 have lb:bb < m.length:=(List.getElem?_eq_some_iff.1 h.box).1
 obtain⟨st,o,hj,hr⟩:=h.mem
 have lj:j < m.length:=(List.getElem?_eq_some_iff.1 hj).1
 have hk0:=h.k0.1
 have hl:=f.l
 refine⟨fun i hi=>by rw[newO_old (by omega)];exact h.low i hi,fun i hi=>?_,⟨by omega,fun i hi=>?_⟩,by rw[f.k bb lb (by rw[h.ob];exact fun h=>h6 h.symm) (by rw[h.ob];decide)];exact h.box,by rw[newO_old lb];exact h.ob,by rw[newO_old lj];exact h.oj,hmem,hok⟩
 ·unfold newO;rw[if_neg (by omega)];exact h.hig i (by omega)
 ·rw[f.k i (by omega) (by rw[h.low i hi];exact fun h=>h0 h.symm) (by rw[h.low i hi];decide),h.k0.2 i hi]
theorem KT.tr(h:KT c xj own s m) (hh:∀ i,m.length≤i→own i=0) (f:Fr1 own t m m') (h1:t≠1):KT c xj (newO own m m' t) s m':=by
 refine⟨TQ.mono (TQ.stay h.tq fun i hi hp=>f.k i hi (by rw[hp];exact fun h=>h1 h.symm) (by rw[hp];decide)) (fun i hp=>?_) (fun i hp=>?_),h.ok⟩ <;>
 ·by_cases hi:i < m.length
  ·show newO own m m' t i=1
   rw[newO_old hi];exact hp
  ·rw[hh i (by omega)] at hp;cases hp
theorem KP.tr(h:KP c pj g own ps m) (hh:∀ i,m.length≤i→own i=0) (f:Fr1 own t m m') (h1:t≠2):KP c pj g (newO own m m' t) ps m':=by
 obtain⟨qt,tv,hv,pm,h2,h3,h4⟩:=h.get
 have lt:∀ i,own i=2→i < m.length:=fun i hi=>by
  by_cases h:i < m.length
  ·exact h
  ·rw[hh i (by omega)] at hi;cases hi
 have kk:∀ i,own i=2→m'[i]?=m[i]?:=fun i hi=>f.k i (lt i hi) (by rw[hi];exact fun h=>h1 h.symm) (by rw[hi];decide)
 exact⟨⟨qt,tv,hv,⟨by rw[kk pj h2];exact pm.get,fun ha=>(pm.t ha).keep fun _=>kk qt h3,pm.one,h4.row pm.h f (fun h=>h1 h.symm) (by decide),pm.off⟩,by rw[newO_old (lt _ h2)];exact h2,by rw[newO_old (lt _ h3)];exact h3,h4.new pm.h⟩,h.ok⟩
theorem KR.tr(h:KR u own l v m) (f:Fr1 own t m m') (h1:u≠t) (h5:u≠5):KR u (newO own m m' t) l v m':=by
 obtain⟨q,h2,h3⟩:=h.get
 exact⟨q,h2.keep fun h0=>f.k q (h2.lt h0) (by rw[h3 h0];exact h1) (by rw[h3 h0];exact h5),fun h0=>by rw[newO_old (h2.lt h0)];exact h3 h0⟩
theorem KR.push(h:KR u own l v m) {wr:Bool} {ys:List Int} {y:AV} (hy:SI m wr ys y) (hl:l.length≤1000) (hl2:ys.length≤1000):∃ v' m',appendA 1 8 v y m=some (v',m')∧Fr1 own u m m'∧KR u (newO own m m' u) (l++ys) v' m'∧(∀ i,own i=5→i < m.length→u≠5→m'[i]?=m[i]?):=by
 obtain⟨q,h2,h3⟩:=h.get
 obtain⟨v',m',q',ha,rg,hlen,hq,hf⟩:=Rw.pushs h2 hy hl hl2
 refine⟨v',m',ha,⟨hlen,fun i hi h4 _=>hf i hi fun h0 hiq=>h4 (by rw[hiq];exact h3 h0)⟩,⟨q',rg,fun h0=>?_⟩,fun i h5 hi hu=>hf i hi fun h0 hiq=>hu (by rw[← h3 h0,← hiq];exact h5)⟩
 rcases hq with⟨hy0,rfl⟩|hq
 ·rw[List.length_append,hy0,Nat.add_zero] at h0
  rw[newO_old (h2.lt h0)];exact h3 h0
 ·exact newO_new hq (rg.lt h0)
end Go.Am.F11
end
section
namespace Go.Am.F11
open Go.Am.F06 Go.Am.F10 Go.Am.F09
structure KK (c:Cf) (H0 h0:Int) (i r:Nat) (s:TS) (ps:PS) (g:Int) (xs all out:List Int):Prop where
 sp:∃ T:Nat,T≤8 * i∧hd (xs.getD (wrdN c 1) 0)=(H0+T) % 4294967296∧SPh c H0 h0 T r s xs (ringL c 1 xs)
 kg:∃ w0 A d,KG c 1 g w0 A d ps xs∧(A.length:Int)=sz w0∧sz w0≤c.q∧W64 w0
 pa:ps.a≠0
 nn:∀ x,x ∈ ringL c 1 xs→0≤x∧x < 9223372036854775808
 gb:1000≤g∧g≤1000+i
 pm:all.Perm (out++ringL c 1 xs++(if s.k=0 then [] else s.bl))
 al:all.length≤8+i
variable {c:Cf} {H0 h0 g:Int} {i r:Nat} {s:TS} {ps:PS} {xs all out:List Int}
theorem SPh.mono{T r r':Nat} {R:List Int} (h:SPh c H0 h0 T r s xs R) (hr:r≤r'):SPh c H0 h0 T r' s xs R:=by
 rcases h with⟨hk,ha1,hw0⟩|⟨hk,ha1,hw0,hsz,hv,hr'⟩|⟨hk,hkb,hnn,hbq,htl,ha1,t,hLI,hr'⟩|h
 ·exact .inl ⟨hk,ha1.imp id (fun h=>⟨h.1,by omega⟩),hw0⟩
 ·exact .inr (.inl ⟨hk,ha1,hw0,hsz,hv,by split at hr'<;>(split<;>omega)⟩)
 ·exact .inr (.inr (.inl ⟨hk,hkb,hnn,hbq,htl,ha1,t,hLI,by omega⟩))
 ·exact .inr (.inr (.inr h))
theorem KK.mono(h:KK c H0 h0 i r s ps g xs all out) {i' r':Nat} (hi:i≤i') (hr:r≤r'):KK c H0 h0 i' r' s ps g xs all out:=by
 obtain⟨⟨T,h1,h2,h3⟩,kg,pa,nn,gb,pm,al⟩:=h
 exact⟨⟨T,by omega,h2,h3.mono hr⟩,kg,pa,nn,by omega,pm,by omega⟩
theorem KK.word(h:KK c H0 h0 i r s ps g xs all out):sz (xs.getD (wrdN c 1) 0)≤c.q∧OkL c xs:=by
 obtain⟨w0,A,d,hk,hA,hq,hw⟩:=h.kg
 have hd:=hk.dl
 rw[hk.w,dW_sz (by omega)]
 exact⟨by omega,hk.ok⟩
theorem KK.steal(h:KK c H0 h0 i r s ps g xs all out) (hok:TOk c 0 1 s) (hp0:thereP c 0) (hp1:thereP c 1) (hq8:c.q≤8) (b0:0≤h0) (b1:h0 < 4294967296) (hi:i < 100000) :
  OkL c (stepT c 0 1 xs s).2∧(∃ r',r'≤r∧(s.a≠0→r' < r)∧KK c H0 h0 (i+1) r' (stepT c 0 1 xs s).1 ps g (stepT c 0 1 xs s).2 all out)∧((0 < (stepT c 0 1 xs s).1.k ↔ 0 < s.k)∨(s.k=0∧∃ n:Nat,n=(ringL c 1 xs).length - (ringL c 1 xs).length / 2∧0 < n∧n≤(ringL c 1 xs).length∧(stepT c 0 1 xs s).1.k=n∧handsT (stepT c 0 1 xs s).1=(ringL c 1 xs).take n∧ringL c 1 (stepT c 0 1 xs s).2=(ringL c 1 xs).drop n)):=by
 obtain⟨hq,hx⟩:=h.word
 have hx':=stepT_ok hx hok
 refine⟨hx',?_⟩
 by_cases ha:s.a=0
 ·have e:stepT c 0 1 xs s=(s,xs):=if_pos ha
  rw[e]
  exact⟨⟨r,Nat.le_refl _,fun h=>absurd ha h,h.mono (by omega) (Nat.le_refl _)⟩,.inl Iff.rfl⟩
 obtain⟨⟨T,h1,h2,h3⟩,⟨w0,A,d,hk,hA,hqw,hw⟩,pa,nn,gb,pm,al⟩:=h
 have hring:=hk.ring hp1 hA hqw
 have hl:=ring_len hp1 hq
 rcases h3.step hok hx hp0 hp1 rfl hq h2 (by omega) hq8 nn b0 b1 ha with⟨e1,e2,ho,r',hr,hS⟩|⟨hk0,n,hn,n0,n1,e1,e2,e3,e4,r',hr,hS⟩
 ·have hro:=ho.ring hp1 (by decide)
  have hwo:=ho.word hp1 (by decide)
  rw[← hro] at hS
  refine⟨⟨r',by omega,fun _=>hr,⟨⟨T,by omega,by rw[hwo];exact h2,hS⟩,⟨w0,A,d,hk.same hx' hwo fun k=>ho.slot hp1 (by decide) k,hA,hqw,hw⟩,pa,by rw[hro];exact nn,by omega,?_,by omega⟩⟩,.inl (by rw[e1])⟩
  rw[hro,e1]
  by_cases hk0:s.k=0
  ·rw[if_pos hk0] at pm ⊢;exact pm
  ·rw[if_neg hk0] at pm ⊢
   rw[e2 (by rcases hok.k with h|h<;>omega)];exact pm
 ·have hdl:=hk.dl
  have hRl:(ringL c 1 xs).length=A.length - d:=by rw[hring,List.length_drop]
  have hk':=hk.thief hp1 (n:=n) (by omega)
  have hr':=hk'.ring hp1 hA hqw
  have hrd:ringL c 1 (dX c 1 xs n)=(ringL c 1 xs).drop n:=by rw[hr',hring,List.drop_drop]
  rw[e4] at hx' hS ⊢
  rw[← hrd] at hS
  have hsl:sz (xs.getD (wrdN c 1) 0)≤8:=by omega
  refine⟨⟨r',by omega,fun _=>hr,⟨⟨T+n,by omega,?_,hS⟩,⟨w0,A,d+n,hk',hA,hqw,hw⟩,pa,fun x hx=>nn x (by rw[hrd] at hx;exact List.mem_of_mem_drop hx),by omega,?_,by omega⟩⟩,.inr ⟨hk0,n,hn,n0,n1,e1,e3,hrd⟩⟩
  ·rw[dX_word hx hp1,hd_dW,h2];omega
  ·rw[if_pos hk0,List.append_nil] at pm
   rw[if_neg (by omega),hrd,e2,List.append_assoc]
   refine pm.trans (List.Perm.append_left _ ?_)
   have:=List.perm_append_comm (l₁:=(ringL c 1 xs).take n) (l₂:=(ringL c 1 xs).drop n)
   rw[List.take_append_drop] at this
   exact this
theorem KK.put(h:KK c H0 h0 i 60 s ps g xs all out) (hok:TOk c 0 1 s) (hp0:thereP c 0) (hp1:thereP c 1) (hq8:c.q≤8) (hi:i < 100000) :
  OkL c (stepP c 1 g xs ps).2∧(((stepP c 1 g xs ps).1.a≠0∧KK c H0 h0 (i+1) 60 s (stepP c 1 g xs ps).1 g (stepP c 1 g xs ps).2 all out) ∨
   ((stepP c 1 g xs ps).1.a=0∧(stepP c 1 g xs ps).1.hs.length≤100∧KK c H0 h0 (i+1) 60 s ⟨1,0,[],[g+1]⟩ (g+1) (stepP c 1 g xs ps).2 (all++[g]) (out++(stepP c 1 g xs ps).1.hs))):=by
 obtain⟨hq,hx⟩:=h.word
 obtain⟨⟨T,h1,h2,h3⟩,⟨w0,A,d,hk,hA,hqw,hw⟩,pa,nn,gb,pm,al⟩:=h
 have hb1:=there_bounds hp1
 have hroom:roomP c.q:=hp1.1.2.1
 have heven:c.q / 2+c.q / 2=c.q∧1≤c.q / 2:=by rcases hroom with h|h|h|h|h|h<;>rw[h]<;>decide
 have hring:=hk.ring hp1 hA hqw
 have ho:Oth c 1 xs (stepP c 1 g xs ps).2:=oth_stepP hp1
 have hhd:=stepP_hd (g:=g) (s:=ps) (xs:=xs) hp1
 rw[h2] at hhd
 have hdl:=hk.dl
 have hRl:(ringL c 1 xs).length=A.length - d:=by rw[hring,List.length_drop]
 rcases hk.step hp1 hA hqw hw (by omega) (by omega) pa with⟨e1,hk'⟩|⟨e1,e2,e3,e4,e5,e6⟩|⟨e1,e2,e3,e4,e5,e6⟩
 ·have hr':=hk'.ring hp1 hA hqw
  have hrr:ringL c 1 (stepP c 1 g xs ps).2=ringL c 1 xs:=hr'.trans hring.symm
  exact⟨hk'.ok,.inl ⟨e1,⟨⟨T,by omega,hhd,by rw[hrr];exact h3.put hok hp0 hp1 hq8 ho hk'.ok fun j _ hj=>⟨hj,rfl⟩⟩,⟨w0,A,d,hk',hA,hqw,hw⟩,e1,by rw[hrr];exact nn,by omega,by rw[hrr];exact pm,by omega⟩⟩⟩
 ·rw[← hring] at e4
  have hq':=ring_sz hp1 (xs:=(stepP c 1 g xs ps).2) (by rw[e4];simp)
  refine⟨e3,.inr ⟨e1,by rw[e2];simp,⟨⟨T,by omega,hhd,?_⟩,⟨_,_,_,KG.start e3 hp1 hq',ring_len hp1 hq',hq',getD_64 e3.2 _⟩,(by show ¬ ((1:Int)=0);decide),?_,by omega,?_,by rw[List.length_append];simp;omega⟩⟩⟩
  ·refine h3.put hok hp0 hp1 hq8 ho e3 fun j _ hj=>⟨by rw[e4,List.length_append];omega,?_⟩
   rw[e4,List.take_append_of_le_length hj]
  ·intro x hx
   rw[e4,List.mem_append] at hx
   rcases hx with hx|hx
   ·exact nn x hx
   ·rw[List.mem_singleton] at hx;omega
  ·rw[e4,e2,List.append_nil]
   have:=pm.append_right [g]
   refine this.trans ?_
   simp only[List.append_assoc]
   refine List.Perm.append_left _ (List.Perm.append_left _ ?_)
   exact List.perm_append_comm
 ·subst e2
  rw[List.drop_zero] at hring
  have hq':=ring_sz hp1 (xs:=(stepP c 1 g xs ps).2) (by rw[e6,List.length_take];omega)
  refine⟨e5,.inr ⟨e1,by rw[e4];simp;omega,⟨⟨T,by omega,hhd,?_⟩,⟨_,_,_,KG.start e5 hp1 hq',ring_len hp1 hq',hq',getD_64 e5.2 _⟩,(by show ¬ ((1:Int)=0);decide),?_,by omega,?_,by rw[List.length_append];simp;omega⟩⟩⟩
  ·refine h3.put hok hp0 hp1 hq8 ho e5 fun j hj hj2=>⟨by rw[e6,List.length_take];omega,?_⟩
   rw[e6,hring,List.take_take,Nat.min_eq_left (by omega)]
  ·intro x hx
   rw[e6] at hx
   exact nn x (by rw[hring];exact List.mem_of_mem_take hx)
  ·rw[e6,e4]
   have h5:=pm.append_right [g]
   refine h5.trans ?_
   rw[hring]
   generalize (if s.k=0 then [] else s.bl)=B
   generalize A.length - (c.q / 2).toNat=n
   have h6:A.Perm (A.drop n++A.take n):=by
    have:=List.perm_append_comm (l₁:=A.take n) (l₂:=A.drop n)
    rwa [List.take_append_drop] at this
   simp only[List.append_assoc]
   refine List.Perm.append_left _ ?_
   refine(List.Perm.append_right _ h6).trans ?_
   simp only[List.append_assoc]
   refine List.Perm.append_left _ ?_
   have h7:(A.take n++(B++[g])).Perm ((A.take n++B)++[g]):=by rw[List.append_assoc]
   exact h7.trans List.perm_append_comm
theorem KK.thief(h:KK c H0 h0 i 60 s ps g xs all out) (hok:TOk c 0 1 s) (hp0:thereP c 0) (hp1:thereP c 1) (hq8:c.q≤8) (hi:i < 100000) {n:Nat} (hn:n≤(ringL c 1 xs).length):KK c H0 h0 (i+1) 60 s ps g (dX c 1 xs n) all (out++(ringL c 1 xs).take n):=by
 obtain⟨hq,hx⟩:=h.word
 obtain⟨⟨T,h1,h2,h3⟩,⟨w0,A,d,hk,hA,hqw,hw⟩,pa,nn,gb,pm,al⟩:=h
 have hring:=hk.ring hp1 hA hqw
 have hl:=ring_len hp1 hq
 have hdl:=hk.dl
 have hRl:(ringL c 1 xs).length=A.length - d:=by rw[hring,List.length_drop]
 have hk':=hk.thief hp1 (n:=n) (by omega)
 have hr':=hk'.ring hp1 hA hqw
 have hrd:ringL c 1 (dX c 1 xs n)=(ringL c 1 xs).drop n:=by rw[hr',hring,List.drop_drop]
 refine⟨⟨T+n,by omega,?_,by rw[hrd];exact h3.thief hok hx hp0 hp1 hq8 n⟩,⟨w0,A,d+n,hk',hA,hqw,hw⟩,pa,fun x hx=>nn x (by rw[hrd] at hx;exact List.mem_of_mem_drop hx),by omega,?_,by omega⟩
 ·rw[dX_word hx hp1,hd_dW,h2];omega
 ·rw[hrd]
  refine pm.trans ?_
  have:out++ringL c 1 xs=(out++(ringL c 1 xs).take n)++(ringL c 1 xs).drop n:=by rw[List.append_assoc,List.take_append_drop]
  rw[this]
theorem KK.fin(h:KK c H0 h0 i r s ps g xs all out) (hok:TOk c 0 1 s) (hp0:thereP c 0) (b0:0≤h0) (b1:h0 < 4294967296) (ha:s.a=0):leftT s=[]∧all.Perm (out++(if 0 < s.k then [gotV s] else [])++ringL c 0 xs++ringL c 1 xs):=by
 obtain⟨⟨T,h1,h2,h3⟩,_,pa,nn,gb,pm,al⟩:=h
 have key:∀ (A R0 R1 B:List Int),(if s.k=0 then [] else s.bl)=B++R0→all.Perm (out++B++R0++ringL c 1 xs):=fun A R0 R1 B e=>by
  rw[e] at pm
  refine pm.trans ?_
  simp only[List.append_assoc]
  refine List.Perm.append_left _ ?_
  have:=List.perm_append_comm (l₁:=ringL c 1 xs) (l₂:=B++R0)
  simpa only[List.append_assoc] using this
 rcases h3 with⟨hk,ha1,hw0⟩|⟨hk,ha1,_⟩|⟨hk,hkb,hnn,hbq,htl,ha1,_⟩|⟨hk,hkb,ha1,hls,hri⟩
 ·have hr0:=ring_empty hp0 b0 b1 hw0
  refine⟨if_neg (fun h=>by omega),?_⟩
  rw[if_neg (by omega),hr0]
  exact key [] [] [] [] (by rw[if_pos hk];rfl)
 ·omega
 ·omega
 ·refine⟨by unfold leftT;rw[if_pos ⟨ha,hk⟩];exact hls,?_⟩
  rw[if_pos hk,hri]
  have hg:gotV s=s.bl.getD 0 0:=if_pos ⟨ha,hk⟩
  refine key [] _ [] _ ?_
  rw[if_neg (by omega),hg]
  cases hbl:s.bl with
  | nil=>rw[hbl] at hkb;simp at hkb;omega
  | cons y u=>rfl
end Go.Am.F11
end
section
namespace Go.Am.F11
open Go.Am.F06 Go.Am.F10 Go.Am.F09
structure KM (M0:MM) (c:Cf) (bb j xj pj:Nat) (own:Nat→Nat) (s:TS) (ps:PS) (g:Int) (xs all out:List Int) (av ov:AV) (m:MM):Prop where
 kb:KB M0 c bb j own xs m
 kt:KT c xj own s m
 kp:KP c pj g own ps m
 ka:KR 3 own all av m
 ko:KR 4 own out ov m
variable {M0 m m':MM} {c:Cf} {bb j xj pj:Nat} {own:Nat→Nat} {s:TS} {ps:PS} {g:Int} {xs xs' all out:List Int} {av ov:AV}
theorem KM.tr7(h:KM M0 c bb j xj pj own s ps g xs all out av ov m) (f:Fr1 own 7 m m') (hmem:∃ st o,m'[j]?=some (.abs (.mem st))∧RelM xs' o st) (hok:OkL c xs'):KM M0 c bb j xj pj (newO own m m' 7) s ps g xs' all out av ov m' :=
 ⟨h.kb.tr f (by decide) (by decide) hmem hok,h.kt.tr h.kb.hig f (by decide),h.kp.tr h.kb.hig f (by decide),h.ka.tr f (by decide) (by decide),h.ko.tr f (by decide) (by decide)⟩
theorem KM.keep(h:KM M0 c bb j xj pj own s ps g xs all out av ov m) (k:Keep m m'):KM M0 c bb j xj pj (newO own m m' 7) s ps g xs all out av ov m':=by
 obtain⟨st,o,hj,hr⟩:=h.kb.mem
 exact h.tr7 (.of k) ⟨st,o,k.get hj,hr⟩ h.kb.okL
theorem KM.thief(h:KM M0 c bb j xj pj own s ps g xs all out av ov m) (k:KeepB j m m') (hmem:∃ st o,m'[j]?=some (.abs (.mem st))∧RelM xs' o st) (hok:OkL c xs'):KM M0 c bb j xj pj (newO own m m' 7) s ps g xs' all out av ov m' :=
 h.tr7 ⟨k.1,fun i hi _ h5=>k.2 i hi fun hh=>h5 (by rw[hh];exact h.kb.oj)⟩ hmem hok
theorem KM.steal(h:KM M0 c bb j xj pj own s ps g xs all out av ov m) {x:TS × List Int} {o:Int} {r:AV} (hP:SsQ m (fun i=>own i=1) (fun i=>own i=1) c 0 1 xj j x o r m') (hok:TOk c 0 1 x.1) (hx:OkL c x.2) :
  r = .bool (decide (x.1.a=0))∧Fr1 own 1 m m'∧KM M0 c bb j xj pj (newO own m m' 1) x.1 ps g x.2 all out av ov m':=by
 obtain⟨rfl,k1,tq,st',hj',hr'⟩:=hP
 have f:Fr1 own 1 m m':=⟨k1.1,fun i hi h1 h5=>k1.2 i hi (fun hh=>h5 (by rw[hh];exact h.kb.oj)) h1⟩
 have hn:∀ i,NewP (fun i=>own i=1) m m' i→newO own m m' 1 i=1:=fun i hi=>by
  rcases hi with hi|⟨h1,h2⟩
  ·by_cases hl:i < m.length
   ·rw[newO_old hl];exact hi
   ·have:=h.kb.hig i (by omega)
    have h9:own i=1:=hi
    omega
  ·exact newO_new h1 h2
 exact⟨rfl,f,h.kb.tr f (by decide) (by decide) ⟨st',o,hj',hr'⟩ hx,⟨TQ.mono tq hn hn,hok⟩,h.kp.tr h.kb.hig f (by decide),h.ka.tr f (by decide) (by decide),h.ko.tr f (by decide) (by decide)⟩
theorem KM.putQ(h:KM M0 c bb j xj pj own s ps g xs all out av ov m):∃ qt tv hv,PM m pj c 1 g ps qt tv hv∧∀ {x:PS × List Int} {o:Int} {r:AV} {m':MM},PsP m c 1 g pj j qt hv x o r m'→POk c 1 x.1→OkL c x.2 →
  r = .bool (decide (x.1.a=0))∧Fr1 own 2 m m'∧KM M0 c bb j xj pj (newO own m m' 2) s x.1 g x.2 all out av ov m':=by
 obtain⟨qt,tv,hv,pm,h2,h3,h4⟩:=h.kp.get
 refine⟨qt,tv,hv,pm,?_⟩
 rintro x o r m' ⟨rfl,k1,tv',hv',qt',pm',hq,hh,st',hj',hr'⟩ hok hx
 have f:Fr1 own 2 m m':=⟨k1.1,fun i hi h1 h5=>k1.2 i hi (fun hh=>h1 (by rw[hh];exact h2)) (fun hh=>h5 (by rw[hh];exact h.kb.oj)) (fun hh=>h1 (by rw[hh];exact h3))⟩
 have lt:∀ i,own i=2→i < m.length:=fun i hi=>by
  by_cases hl:i < m.length
  ·exact hl
  ·rw[h.kb.hig i (by omega)] at hi;cases hi
 refine⟨rfl,f,h.kb.tr f (by decide) (by decide) ⟨st',o,hj',hr'⟩ hx,h.kt.tr h.kb.hig f (by decide),⟨⟨qt',tv',hv',pm',by rw[newO_old (lt _ h2)];exact h2,?_,?_⟩,hok⟩,h.ka.tr f (by decide) (by decide),h.ko.tr f (by decide) (by decide)⟩
 ·rcases hq with hq|⟨h1,h1'⟩|hq
  ·rw[hq,newO_old (lt _ h2)];exact h2
  ·exact newO_new h1 h1'
  ·rw[hq,newO_old (lt _ h3)];exact h3
 ·rcases hh with hh|hh
  ·rw[hh];exact h4.new pm.h
  ·exact Tag.fr hh pm'.h
theorem KM.newput(h:KM M0 c bb j xj pj own s ps g xs all out av ov m) {g':Int} {r:AV} (hP:PnP m c 1 g' r m') (hok:POk c 1 (newS c 1 g')):∃ pj',r = .ptr pj' 0∧Keep m m'∧KM M0 c bb j xj pj' (newO own m m' 2) s (newS c 1 g') g' xs all out av ov m':=by
 obtain⟨pj',hv,rfl,hl,k,pm,hf⟩:=hP
 have f:Fr1 own 2 m m':=.of k
 obtain⟨st,o,hj,hr⟩:=h.kb.mem
 have lp:pj' < m'.length:=(List.getElem?_eq_some_iff.1 pm.get).1
 exact⟨pj',rfl,k,h.kb.tr f (by decide) (by decide) ⟨st,o,k.get hj,hr⟩ h.kb.okL,h.kt.tr h.kb.hig f (by decide),⟨⟨pj',.nils,hv,pm,newO_new hl lp,newO_new hl lp,Tag.fr hf pm.h⟩,hok⟩,h.ka.tr f (by decide) (by decide),h.ko.tr f (by decide) (by decide)⟩
theorem KM.pushA(h:KM M0 c bb j xj pj own s ps g xs all out av ov m) {wr:Bool} {ys:List Int} {y:AV} (hy:SI m wr ys y) (hl:all.length≤1000) (hl2:ys.length≤1000):∃ av' m',appendA 1 8 av y m=some (av',m')∧Fr1 own 3 m m'∧KM M0 c bb j xj pj (newO own m m' 3) s ps g xs (all++ys) out av' ov m':=by
 obtain⟨av',m',ha,f,kr,h5⟩:=h.ka.push hy hl hl2
 obtain⟨st,o,hj,hr⟩:=h.kb.mem
 exact⟨av',m',ha,f,h.kb.tr f (by decide) (by decide) ⟨st,o,(h5 j h.kb.oj (List.getElem?_eq_some_iff.1 hj).1 (by decide)).trans hj,hr⟩ h.kb.okL,h.kt.tr h.kb.hig f (by decide),h.kp.tr h.kb.hig f (by decide),kr,h.ko.tr f (by decide) (by decide)⟩
theorem KM.pushO(h:KM M0 c bb j xj pj own s ps g xs all out av ov m) {wr:Bool} {ys:List Int} {y:AV} (hy:SI m wr ys y) (hl:out.length≤1000) (hl2:ys.length≤1000):∃ ov' m',appendA 1 8 ov y m=some (ov',m')∧Fr1 own 4 m m'∧KM M0 c bb j xj pj (newO own m m' 4) s ps g xs all (out++ys) av ov' m':=by
 obtain⟨ov',m',ha,f,kr,h5⟩:=h.ko.push hy hl hl2
 obtain⟨st,o,hj,hr⟩:=h.kb.mem
 exact⟨ov',m',ha,f,h.kb.tr f (by decide) (by decide) ⟨st,o,(h5 j h.kb.oj (List.getElem?_eq_some_iff.1 hj).1 (by decide)).trans hj,hr⟩ h.kb.okL,h.kt.tr h.kb.hig f (by decide),h.kp.tr h.kb.hig f (by decide),h.ka.tr f (by decide) (by decide),kr⟩
theorem KR.si{u:Nat} {l:List Int} {v:AV} (h:KR u own l v m):SI m false l v:=by
 obtain⟨q,h2,_⟩:=h.get
 exact h2.si
theorem KR.one{u:Nat} {l:List Int} {v:AV} (h:KR u own l v m):v.one=true:=slOne h.si
theorem lit_si(m:MM) (x:Int):SI (m++[Chunk.cells 1 false [.int .i64 x]]) true [x] (.sl m.length 0 1 (some 1)) :=
 ⟨rfl,.inr ⟨m.length,0,some 1,rfl,fun _=>⟨false,_,get_concat,rfl,by simp,fun _=>rfl⟩⟩⟩
end Go.Am.F11
end
section
namespace Go.Am.F09
open Go.Am.F06 Go.Am.F10
end Go.Am.F09
end
section
namespace Go.Am.F11
open Go.Am.F06 Go.Am.F10 Go.Am.F09
def tnC(x:Int × Int):List AV:=[.int .i64 x.1,.int .i64 x.2]
abbrev STn(m:MM) (wr:Bool) (es:List (Int × Int)) (v:AV):Prop:=Sl m wr 2 es.length (es.flatMap tnC) v
theorem stn_get{m:MM} {wr:Bool} {es:List (Int × Int)} {v:AV} (h:STn m wr es v) {i:Nat} {e:Int × Int} (he:es[i]?=some e):∃ q o cap ro L,v = .sl q o es.length cap∧m[q]?=some (.cells 2 ro L)∧i < es.length∧o+i * 2+2≤L.length ∧
  L[o+i * 2]?=some (.int .i64 e.1)∧L[o+i * 2+1]?=some (.int .i64 e.2):=by
 have hi:i < es.length:=(List.getElem?_eq_some_iff.1 he).1
 obtain⟨q,o,cap,ro,L,rfl,h2,h3,h4,h5⟩:=h.at (by omega)
 have hL:∀ k,k < 2→L[o+i * 2+k]?=(tnC e)[k]?:=by
  intro k hk
  rw[Nat.add_assoc,sl_get h3 (by omega),rows_at (f:=tnC) (sz:=2) (fun _=>rfl) he hk]
 exact⟨q,o,cap,ro,L,rfl,h2,hi,by omega,hL 0 (by omega),hL 1 (by omega)⟩
theorem Tag.nx{own:Nat→Nat} {t u:Nat} {m m':MM} {v:AV} {n:Nat} (h:Tag own u v) (hn:Nx m v) (hl:lenA v=some n) (h0:0 < n) (f:Fr1 own t m m') (h1:u≠t) (h2:u≠5):Nx m' v:=by
 rcases hn with hn|⟨q,o,k,l,h3,h4⟩
 ·exact .inl hn
 ·rw[h3] at hl;simp only[lenA,Option.some.injEq] at hl;subst hl
  have hq:=h q o k none h3 h0
  exact .inr ⟨q,o,k,l,h3,(f.k q (List.getElem?_eq_some_iff.1 h4).1 (by rw[hq];exact h1) (by rw[hq];exact h2)).trans h4⟩
def Gsk:List (Nat × AFun Ob):=[(268,pureF worksG),(133,F10.c_docs_Made),(134,F10.c_docs_Filled),(159,F10.c_conf_Config_Word),(135,amFunc F10.Gmem F10.docs_Mem),(136,amFunc F10.Gring F10.docs_Ring),(270,c_steal_New),(185,F09.c_put_New),(87,F10.c_kit_Pick),(274,amFunc Gst steal_Steal_Step),(275,c_steal_Steal_Many),(276,amFunc Gsh steal_Steal_Hands),(84,F10.c_kit_SameInts),(186,amFunc Gpst F09.put_Put_Step),(187,amFunc Gpo F09.put_Put_Over),(139,amFunc F10.Gthief F10.docs_Thief),(277,c_steal_Steal_Done),(278,c_steal_Steal_Got),(279,amFunc Glf steal_Steal_Left),(280,amFunc [] law11_same)]
def skB:AC:=match sqN 15 law11_StealKeeps.body with | .seq _ (.block _ (.loop b))=>b|_=>.skip
def skC:AC:=match skB with | .seq c _=>c|_=>.skip
def skT:AC:=match skB with | .seq _ (.seq (.block _ r) _)=>r|_=>.skip
def skI:AC:=match skB with | .seq _ (.seq _ i)=>i|_=>.skip
def skE:AC:=sqT 16 law11_StealKeeps.body
def SkE(c0:Cf) (bv lv x5:AV) (bb j xj:Nat) (i:Nat) (gt:Bool) (g:Int) (pj:Nat) (av ov:AV) (e:List AV):Prop:=∃ z14 z15 z16 z17 z18 z19 z20 z21 z22 z23 z24 z25 z26 z27 z28 z29 z30:AV,
 e=[.agg (cfC c0),bv,lv,.ptr bb 0,.bool false,x5,.ptr j 0,av,.int .i64 g,.ptr xj 0,.ptr pj 0,ov,.bool gt,.int .i64 i,z14,z15,z16,z17,z18,z19,z20,z21,z22,z23,z24,z25,z26,z27,z28,z29,z30]
def SkN(M0:MM) (c0 c:Cf) (bv lv x5:AV) (bb j xj:Nat) (H0 h0:Int) (i i':Nat) (e:List AV) (m:MM):Prop:=∃ (own:Nat→Nat) (s:TS) (ps:PS) (g:Int) (xs all out:List Int) (av ov:AV) (pj:Nat),
 SkE c0 bv lv x5 bb j xj i (decide (0 < s.k)) g pj av ov e∧KM M0 c bb j xj pj own s ps g xs all out av ov m∧KK c H0 h0 i' 60 s ps g xs all out
set_option maxHeartbeats 16000000 in
theorem skT_run{M0 m:MM} {c0 c:Cf} {bv lv x5 av ov:AV} {bb j xj pj:Nat} {H0 h0 g:Int} {own:Nat→Nat} {s:TS} {ps:PS} {xs all out:List Int} {ls:List (Int × Int)} {i:Nat} {z14 z15 z16 z17 z18 z19 z20 z21 z22 z23 z24 z25 z26 z27 z28 z29 z30:AV}
  (hp0:thereP c 0) (hp1:thereP c 1) (hq8:c.q≤8) (b0:0≤h0) (b1:h0 < 4294967296) (hL:STn M0 false ls lv) (hi:i < ls.length) (hn:ls.length≤150)
  (hM:KM M0 c bb j xj pj own s ps g xs all out av ov m) (hK:KK c H0 h0 i 60 s ps g xs all out) :
  W Gsk skT (fun x e m=>x = .normal∧SkN M0 c0 c bv lv x5 bb j xj H0 h0 i (i+1) e m) [.agg (cfC c0),bv,lv,.ptr bb 0,.bool false,x5,.ptr j 0,av,.int .i64 g,.ptr xj 0,.ptr pj 0,ov,.bool (decide (0 < s.k)),.int .i64 i,z14,z15,z16,z17,z18,z19,z20,z21,z22,z23,z24,z25,z26,z27,z28,z29,z30] m:=by
 have a136:assoc Gsk 136=some (amFunc F10.Gring F10.docs_Ring):=rfl
 have a87:assoc Gsk 87=some F10.c_kit_Pick:=rfl
 have a274:assoc Gsk 274=some (amFunc Gst steal_Steal_Step):=rfl
 have a275:assoc Gsk 275=some c_steal_Steal_Many:=rfl
 have a276:assoc Gsk 276=some (amFunc Gsh steal_Steal_Hands):=rfl
 have a84:assoc Gsk 84=some F10.c_kit_SameInts:=rfl
 have a186:assoc Gsk 186=some (amFunc Gpst F09.put_Put_Step):=rfl
 have a187:assoc Gsk 187=some (amFunc Gpo F09.put_Put_Over):=rfl
 have a185:assoc Gsk 185=some F09.c_put_New:=rfl
 have a139:assoc Gsk 139=some (amFunc F10.Gthief F10.docs_Thief):=rfl
 have hpe:F09.c_put_New (X:=Ob)=amFunc [(206,F09.c_put_from)] F09.put_New:=rfl
 have hse:F10.c_kit_SameInts (X:=Ob)=amFunc [] F10.kit_SameInts:=rfl
 generalize Gsk=G at a136 a87 a274 a275 a276 a84 a186 a187 a185 a139 ⊢
 have hb1:=there_bounds hp1
 have hlo:out.length≤8+i∧all.length≤8+i:=by
  have h1:=hK.pm.length_eq
  have h2:=hK.al
  simp only[List.length_append] at h1
  omega
 obtain⟨st,o,gj,hr⟩:=hM.kb.mem
 have hrn:=ring_run (c:=c) (p:=1) gj hr hM.kb.okL
 have gb:=hM.kb.box
 obtain⟨tn,htn⟩:∃ tn,ls[i]?=some tn:=⟨_,List.getElem?_eq_getElem hi⟩
 have hpk:=fun(m:MM) (x:Int)=>F10.pick_eq m x 3 (by omega) (by omega)
 have k3:=Int.emod_nonneg tn.1 (b:=3) (by omega)
 have k3':=Int.emod_lt_of_pos tn.1 (b:=3) (by omega)
 simp only[cfC] at gb hrn
 simp(disch:=first|assumption|omega|(simp only[zl]<;>omega)|(simp only[zn])) only[skT,skB,sqN,law11_StealKeeps,↓zd,zk,seval,reduceIte,List.map,AV.cells,List.all,AV.one,eqV,eqAll,splice,fillA,List.replicate,resAll,resA,zm,zg,gb,a136]
 refine OK_fn hrn ?_
 rintro rv m1 ⟨k1,s1,fr1,nx1,ow1⟩
 have hM1:=hM.keep k1
 have htg:Tag (newO own m m1 7) 7 rv:=Tag.fr fr1 s1
 obtain⟨q,oo,cap,ro,L,rfl,b2,_,b4,b5,b6⟩:=stn_get (hL.keep hM1.kb.k0) htn
 generalize newO own m m1 7=own1 at hM1 htg
 clear hM gj hr hrn gb k1
 have hlenl:lenA (.sl q oo ls.length cap)=some ls.length:=rfl
 obtain⟨st1,o1,gj1,hr1⟩:=hM1.kb.mem
 have gb1:=hM1.kb.box
 have hlr:=s1.len
 simp only[cfC] at gb1
 rcases (show tn.1 % 3=0∨tn.1 % 3=1∨tn.1 % 3=2 by omega) with hk|hk|hk
 ·simp(disch:=first|assumption|omega|(simp only[zl]<;>omega)|(simp only[zn])) only[↓zd,zk,seval,reduceIte,List.map,AV.cells,List.all,AV.one,eqV,eqAll,splice,fillA,List.replicate,resAll,resA,zm,zg,b2,b5,a87,hpk,hk,a274]
  refine OK_fn (sstepQ_run hM1.kt.tq gj1 hr1 hM1.kt.ok (.inr hM1.kb.okL)) ?_
  rintro r m2 ⟨hP,_⟩
  have htok:=hM1.kt.ok
  obtain⟨okx,⟨r',hr',_,hK2⟩,hgain⟩:=hK.steal htok hp0 hp1 hq8 b0 b1 (by omega)
  have htok2:=htok.step (xs:=xs) (.inr hM1.kb.okL)
  obtain⟨rfl,f2,hM2⟩:=hM1.steal hP htok2 okx
  have hK3:=hK2.mono (Nat.le_refl _) hr'
  have hmn:=hM2.kt.tq.tm.mn
  clear hP hK2 hr'
  generalize stepT c 0 1 xs s=x at okx hM2 hgain htok2 hK3 hmn ⊢
  obtain⟨s',xs'⟩:=x
  simp only at okx hM2 hgain htok2 hK3 hmn
  rcases hgain with hg|⟨hk0,n,hn9,n0,n1,e1,e3,e4⟩
  ·by_cases hg0:0 < s.k
   ·have hg1:=hg.2 hg0
    have hd0:decide (0 < s.k)=true:=decide_eq_true hg0
    have hd1:decide (0 < s'.k)=true:=decide_eq_true hg1
    simp(disch:=first|assumption|omega|(simp only[zl]<;>omega)|(simp only[zn])) only[↓zd,zk,seval,reduceIte,List.map,AV.cells,List.all,AV.one,eqV,eqAll,splice,fillA,List.replicate,resAll,resA,zm,zg,a275,hmn,hg1,hd0]
    exact⟨_,s',ps,g,xs',all,out,av,ov,pj,⟨_,_,_,_,_,_,_,_,_,_,_,_,_,_,_,_,_,by rw[hd1]⟩,hM2,hK3⟩
   ·have hg1:¬ 0 < s'.k:=fun h=>hg0 (hg.1 h)
    have hd0:decide (0 < s.k)=false:=decide_eq_false hg0
    have hd1:decide (0 < s'.k)=false:=decide_eq_false hg1
    simp(disch:=first|assumption|omega|(simp only[zl]<;>omega)|(simp only[zn])) only[↓zd,zk,seval,reduceIte,List.map,AV.cells,List.all,AV.one,eqV,eqAll,splice,fillA,List.replicate,resAll,resA,zm,zg,a275,hmn,hg1,hd0]
    exact⟨_,s',ps,g,xs',all,out,av,ov,pj,⟨_,_,_,_,_,_,_,_,_,_,_,_,_,_,_,_,_,by rw[hd1]⟩,hM2,hK3⟩
  ·have hg1:0 < s'.k:=by omega
   have hd0:decide (0 < s.k)=false:=decide_eq_false (by omega)
   have hd1:decide (0 < s'.k)=true:=decide_eq_true hg1
   have hrl:=ringL_le c 1 xs
   have t0:(((ringL c 1 xs).length:Nat):Int).tdiv 2=((ringL c 1 xs).length / 2:Nat):=by
    rw[Int.tdiv_eq_ediv_of_nonneg (by omega)];omega
   have t1:IntKind.i64.wrap (((ringL c 1 xs).length:Int) - ((ringL c 1 xs).length / 2:Nat))=n:=by
    rw[wrapI (by omega) (by omega)];omega
   rw[e1] at hmn
   have hn0:(0:Int) < n:=by omega
   have t2:IntKind.i64.wrap (((ringL c 1 xs).length / 2:Nat):Int)=((ringL c 1 xs).length / 2:Nat):=wrapI (by omega) (by omega)
   simp(disch:=first|assumption|omega|(simp only[zl]<;>omega)|(simp only[zn])) only[↓zd,zk,seval,reduceIte,List.map,AV.cells,List.all,AV.one,eqV,eqAll,splice,fillA,List.replicate,resAll,resA,zm,zg,a275,hmn,hn0,hd0,ev_len,hlr,t0,t2,t1,a276]
   refine OKT_fn (shands_run hM2.kt.tq.tm htok2) ?_
   rintro hv3 m3 ⟨k3,s3,_⟩
   rw[e3] at s3
   have f3:Fr1 (newO own1 m1 m2 1) 7 m2 m3:=.of k3
   have hM3:=hM2.keep k3
   have s12:=htg.row s1 f2 (by decide) (by decide)
   have nx12:=htg.nx nx1 hlr (by omega) f2 (by decide) (by decide)
   have sl3:=(si_take (k:=n) (s12.keep k3) (nx12.keep k3) n1)
   have sd3:=fun(m:MM) (k:Keep m3 m)=>si_drop (k:=n) ((s12.keep k3).keep k) ((nx12.keep k3).keep k) n1
   have ea:=Fn_eq (same_run s3 sl3.2 (by simp only[FUEL];rw[List.length_take];omega))
   rw[← hse] at ea
   simp only[decide_true] at ea
   have gb3:=hM3.kb.box
   simp only[cfC] at gb3
   obtain⟨st3,o3,gj3,hr3⟩:=hM3.kb.mem
   have hrn3:=ring_run (c:=c) (p:=1) gj3 hr3 hM3.kb.okL
   simp only[cfC] at hrn3
   simp(disch:=first|assumption|omega|(simp only[zl]<;>omega)|(simp only[zn])) only[↓zd,zk,seval,reduceIte,List.map,AV.cells,List.all,AV.one,eqV,eqAll,splice,fillA,List.replicate,resAll,resA,zm,zg,evA,sl3.1,Int.toNat_natCast,a84,ea,gb3,a136]
   refine OKT_fn hrn3 ?_
   rintro rv4 m4 ⟨k4,s4,_,_,_⟩
   rw[e4] at s4
   have hM4:=hM3.keep k4
   have sd4:=sd3 m4 k4
   have eb:=Fn_eq (same_run s4 sd4.2 (by simp only[FUEL];rw[List.length_drop];omega))
   rw[← hse] at eb
   simp only[decide_true] at eb
   have gb4:=hM4.kb.box
   simp only[cfC] at gb4
   have sl4:=(si_take (k:=n) ((s12.keep k3).keep k4) ((nx12.keep k3).keep k4) n1)
   have sl2:=(si_take (k:=n) s12 nx12 n1)
   have sd0:=sd3 m3 (.refl _)
   simp(disch:=first|assumption|omega|(simp only[zl]<;>omega)|(simp only[zn])) only[↓zd,zk,seval,reduceIte,List.map,AV.cells,List.all,AV.one,eqV,eqAll,splice,fillA,List.replicate,resAll,resA,zm,zg,evA,sd4.1,sl3.1,sl4.1,sl2.1,sd0.1,Int.toNat_natCast,a84,eb,gb3,gb4,hmn]
   exact⟨_,s',ps,g,xs',all,out,av,ov,pj,⟨_,_,_,_,_,_,_,_,_,_,_,_,_,_,_,_,_,by rw[hd1]⟩,hM4,hK3⟩
 ·simp(disch:=first|assumption|omega|(simp only[zl]<;>omega)|(simp only[zn])) only[↓zd,zk,seval,reduceIte,List.map,AV.cells,List.all,AV.one,eqV,eqAll,splice,fillA,List.replicate,resAll,resA,zm,zg,b2,b5,a87,hpk,hk,a186]
  obtain⟨qt,tv,hv,pm,hput⟩:=hM1.putQ
  refine OK_fn (pstep_run pm gj1 hr1 (.inr hM1.kb.okL) hM1.kp.ok) ?_
  intro r m2 hP
  obtain⟨okx,hKp⟩:=hK.put hM1.kt.ok hp0 hp1 hq8 (by omega)
  obtain⟨rfl,f2,hM2⟩:=hput hP (hM1.kp.ok.step (.inr hM1.kb.okL)) okx
  have hgb:=hK.gb
  clear hP hput pm
  generalize stepP c 1 g xs ps=x at okx hKp hM2 ⊢
  obtain⟨ps',xs'⟩:=x
  simp only at okx hKp hM2
  generalize newO own1 m1 m2 2=own2 at hM2
  rcases hKp with⟨h1,hK2⟩|⟨h1,hlen,hK2⟩
  ·have hd1:decide (ps'.a=0)=false:=decide_eq_false h1
   simp(disch:=first|assumption|omega|(simp only[zl]<;>omega)|(simp only[zn])) only[↓zd,zk,seval,reduceIte,List.map,AV.cells,List.all,AV.one,eqV,eqAll,splice,fillA,List.replicate,resAll,resA,zm,zg,hd1]
   exact⟨own2,s,ps',g,xs',all,out,av,ov,pj,⟨_,_,_,_,_,_,_,_,_,_,_,_,_,_,_,_,_,rfl⟩,hM2,hK2⟩
  ·have hd1:decide (ps'.a=0)=true:=decide_eq_true h1
   have hM3:=hM2.keep (Keep.app m2 [Chunk.cells 1 false [.int .i64 g]])
   obtain⟨av',m4,happ,f4,hM4⟩:=hM3.pushA (lit_si m2 g) (by omega) (by simp)
   have hone:=hM3.ka.one
   simp only[AV.one] at hone
   simp(disch:=first|assumption|omega|(simp only[zl]<;>omega)|(simp only[zn])) only[↓zd,zk,seval,reduceIte,List.map,AV.cells,List.all,AV.one,eqV,eqAll,splice,fillA,List.replicate,resAll,resA,zm,zg,hd1,evA,fillA,repeatL,List.flatten_cons,List.flatten_nil,happ,hone,a187]
   obtain⟨qt4,tv4,hv4,pm4,_⟩:=hM4.kp.get
   refine OK_fn (pover_run pm4 (by omega)) ?_
   rintro ovr m5 ⟨k5,s5,f5⟩
   rw[if_pos h1] at s5
   have hM5:=hM4.keep k5
   obtain⟨ov',m6,happ2,f6,hM6⟩:=hM5.pushO s5 (by omega) (by omega)
   have e1:IntKind.i64.wrap (g+1)=g+1:=wrapI (by omega) (by omega)
   have gb6:=hM6.kb.box
   simp only[cfC] at gb6
   simp(disch:=first|assumption|omega|(simp only[zl]<;>omega)|(simp only[zn])) only[↓zd,zk,seval,reduceIte,List.map,AV.cells,List.all,AV.one,eqV,eqAll,splice,fillA,List.replicate,resAll,resA,zm,zg,evA,happ2,e1,gb6,a185,hpe]
   have hpn:=pnew_run (m:=m6) (c:=c) (p:=1) (g:=g+1)
   simp only[cfC] at hpn
   refine OK_fn hpn ?_
   intro r7 m7 hP7
   obtain⟨pj',rfl,k7,hM7⟩:=hM6.newput hP7 (newS_ok c 1 (g+1))
   have hns:newS c 1 (g+1)=⟨1,0,[],[g+1]⟩:=if_pos ⟨hp1,by omega⟩
   rw[hns] at hM7
   simp(disch:=first|assumption|omega|(simp only[zl]<;>omega)|(simp only[zn])) only[↓zd,zk,seval,reduceIte,List.map,AV.cells,List.all,AV.one,eqV,eqAll,splice,fillA,List.replicate,resAll,resA,zm,zg]
   exact⟨_,s,_,g+1,xs',_,_,av',ov',pj',⟨_,_,_,_,_,_,_,_,_,_,_,_,_,_,_,_,_,rfl⟩,hM7,hK2⟩
 ·obtain⟨kN,hkN⟩:∃ kN:Nat,tn.2 % 3=kN:=⟨(tn.2 % 3).toNat,by have:=Int.emod_nonneg tn.2 (b:=3) (by omega);omega⟩
  have hk9:=Int.emod_lt_of_pos tn.2 (b:=3) (by omega)
  have hth:=thief_run (k:=kN) (by omega) gj1 hr1 hM1.kb.okL hp1
  simp only[cfC] at hth
  simp(disch:=first|assumption|omega|(simp only[zl]<;>omega)|(simp only[zn])) only[↓zd,zk,seval,reduceIte,List.map,AV.cells,List.all,AV.one,eqV,eqAll,splice,fillA,List.replicate,resAll,resA,zm,zg,b2,b5,b6,a87,hpk,hk,hkN,gb1,a139]
  refine OKT_fn hth ?_
  rintro tk m3 ⟨k3m,st3,st',o',j3,r3⟩
  have hn9:thN kN (ringL c 1 xs).length≤(ringL c 1 xs).length:=by unfold thN;omega
  have hM3:=hM1.thief k3m ⟨st',o',j3,r3⟩ (dX_ok hM1.kb.okL _)
  have hK3:=hK.thief hM1.kt.ok hp0 hp1 hq8 (by omega) hn9
  have hrl:=ringL_le c 1 xs
  obtain⟨ov',m4,happ,f4,hM4⟩:=hM3.pushO st3 (by omega) (by rw[List.length_take];omega)
  have gb3:=hM3.kb.box
  simp only[cfC] at gb3
  simp(disch:=first|assumption|omega|(simp only[zl]<;>omega)|(simp only[zn])) only[↓zd,zk,seval,reduceIte,List.map,AV.cells,List.all,AV.one,eqV,eqAll,splice,fillA,List.replicate,resAll,resA,zm,zg,evA,happ,gb3,gb1]
  exact⟨_,s,ps,g,_,all,_,av,ov',pj,⟨_,_,_,_,_,_,_,_,_,_,_,_,_,_,_,_,_,rfl⟩,hM4,hK3⟩
end Go.Am.F11
end
section
namespace Go.Am.F11
open Go.Am.F06 Go.Am.F10 Go.Am.F09
def SfI(M0:MM) (c0 c:Cf) (bv lv x5:AV) (bb j xj pj:Nat) (H0 h0 g:Int) (ps:PS) (all out:List Int) (av ov:AV) (gt:Bool) (n:Nat) (k:Nat) (e:List AV) (m:MM):Prop:=∃ (u:Nat) (own:Nat→Nat) (s:TS) (xs:List Int) (z14 z15 z17 z18 z19 z20 z21 z22 z23 z24 z25 z26 z27 z28 z29 z30:AV),
 e=[.agg (cfC c0),bv,lv,.ptr bb 0,.bool false,x5,.ptr j 0,av,.int .i64 g,.ptr xj 0,.ptr pj 0,ov,.bool gt,.int .i64 n,z14,z15,.int .i64 u,z17,z18,z19,z20,z21,z22,z23,z24,z25,z26,z27,z28,z29,z30]∧k+u≤60∧KM M0 c bb j xj pj own s ps g xs all out av ov m∧KK c H0 h0 (n+u) k s ps g xs all out
def skF:AC:=sqT 20 law11_StealKeeps.body
theorem skE_eq:skE = .seq (sqN 16 law11_StealKeeps.body) (.seq (sqN 17 law11_StealKeeps.body) (.seq (sqN 18 law11_StealKeeps.body) (.seq (sqN 19 law11_StealKeeps.body) skF))):=rfl
set_option maxHeartbeats 16000000 in
theorem skE_run{M0 m:MM} {c0 c:Cf} {bv lv x5 av ov:AV} {bb j xj pj:Nat} {H0 h0 g:Int} {own:Nat→Nat} {s:TS} {ps:PS} {xs all out:List Int} {n:Nat} {gt:Bool} {z14 z15 z16 z17 z18 z19 z20 z21 z22 z23 z24 z25 z26 z27 z28 z29 z30:AV}
  (hp0:thereP c 0) (hp1:thereP c 1) (hq8:c.q≤8) (b0:0≤h0) (b1:h0 < 4294967296) (hn:n≤150)
  (hM:KM M0 c bb j xj pj own s ps g xs all out av ov m) (hK:KK c H0 h0 n 60 s ps g xs all out) :
  W Gsk skE (resQ [.loc 4] fun r m'=>r = .bool true∧Keep M0 m') [.agg (cfC c0),bv,lv,.ptr bb 0,.bool false,x5,.ptr j 0,av,.int .i64 g,.ptr xj 0,.ptr pj 0,ov,.bool gt,.int .i64 n,z14,z15,z16,z17,z18,z19,z20,z21,z22,z23,z24,z25,z26,z27,z28,z29,z30] m:=by
 have a268:assoc Gsk 268=some (pureF worksG):=rfl
 have a136:assoc Gsk 136=some (amFunc F10.Gring F10.docs_Ring):=rfl
 have a274:assoc Gsk 274=some (amFunc Gst steal_Steal_Step):=rfl
 have a275:assoc Gsk 275=some c_steal_Steal_Many:=rfl
 have a277:assoc Gsk 277=some c_steal_Steal_Done:=rfl
 have a278:assoc Gsk 278=some c_steal_Steal_Got:=rfl
 have a279:assoc Gsk 279=some (amFunc Glf steal_Steal_Left):=rfl
 have a280:assoc Gsk 280=some (amFunc [] law11_same):=rfl
 generalize Gsk=G at a268 a136 a274 a275 a277 a278 a279 a280 ⊢
 rw[skE_eq]
 simp(disch:=first|assumption|omega|(simp only[zl]<;>omega)|(simp only[zn])) only[sqN,law11_StealKeeps,↓zd,zk,seval,reduceIte,List.map,AV.cells,List.all,AV.one,eqV,eqAll,splice,fillA,List.replicate,resAll,resA,zm,zg]
 refine W_loop (SfI M0 c0 c bv lv x5 bb j xj pj H0 h0 g ps all out av ov gt n) 60 (by simp only[FUEL];omega) ⟨0,own,s,xs,_,_,_,_,_,_,_,_,_,_,_,_,_,_,_,_,rfl,by omega,hM,hK⟩ ?_
 clear hM hK
 rintro k e m ⟨u,own,s,xs,y14,y15,y17,y18,y19,y20,y21,y22,y23,y24,y25,y26,y27,y28,y29,y30,rfl,hu,hM,hK⟩
 have hdn:=hM.kt.tq.tm.dn
 have hmn:=hM.kt.tq.tm.mn
 have htok:=hM.kt.ok
 obtain⟨st,o,gj,hr⟩:=hM.kb.mem
 by_cases ha:s.a=0
 ·rw[decide_eq_true ha] at hdn
  have hgot:=sgot_eq hM.kt.tq.tm htok
  obtain⟨hlf,hpm⟩:=hK.fin htok hp0 b0 b1 ha
  have hgB:gotB s=decide (0 < s.k):=by
   unfold gotB
   by_cases hk:0 < s.k
   ·rw[decide_eq_true hk];exact decide_eq_true ⟨ha,hk⟩
   ·rw[decide_eq_false hk];exact decide_eq_false fun h=>hk h.2
  rw[hgB] at hgot
  have hal:=hK.al
  have hrl0:=ringL_le c 0 xs
  have hrl1:=ringL_le c 1 xs
  have hlo:out.length≤all.length:=by
   have h1:=hpm.length_eq
   simp only[List.length_append] at h1
   omega
  simp(disch:=first|assumption|omega|(simp only[zl]<;>omega)|(simp only[zn])) only[↓zd,zk,seval,reduceIte,List.map,AV.cells,List.all,AV.one,eqV,eqAll,splice,fillA,List.replicate,resAll,resA,zm,zg,a277,hdn,a278,hgot,a279]
  refine OK_fn (sleft_run hM.kt.tq.tm htok) ?_
  rintro lfv m1 ⟨k1,s1,_⟩
  rw[hlf] at s1
  have hlfl:=s1.len
  have hM1:=hM.keep k1
  have hmn1:=hM1.kt.tq.tm.mn
  simp only[List.length_nil] at hlfl
  have tail:∀ (own:Nat→Nat) (out':List Int) (ov':AV) (m:MM) (z16 z17 z18 z19 z20 z21 z22 z23 z24 z25 z26 z27 z28 z29 z30:AV),KM M0 c bb j xj pj own s ps g xs all out' av ov' m→out'.length≤600→all.Perm (out'++ringL c 0 xs++ringL c 1 xs) →
    W G skF (resQ [.loc 4] fun r m'=>r = .bool true∧Keep M0 m') [.agg (cfC c0),bv,lv,.ptr bb 0,.bool false,x5,.ptr j 0,av,.int .i64 g,.ptr xj 0,.ptr pj 0,ov',.bool gt,.int .i64 n,y14,y15,z16,z17,z18,z19,z20,z21,z22,z23,z24,z25,z26,z27,z28,z29,z30] m:=by
   intro own out' ov' m z16 z17 z18 z19 z20 z21 z22 z23 z24 z25 z26 z27 z28 z29 z30 hM hol hpm
   obtain⟨st,o,gj,hr⟩:=hM.kb.mem
   have hr0:=ring_run (c:=c) (p:=0) gj hr hM.kb.okL
   have gb:=hM.kb.box
   simp only[cfC] at gb hr0
   simp(disch:=first|assumption|omega|(simp only[zl]<;>omega)|(simp only[zn])) only[skF,sqT,law11_StealKeeps,↓zd,zk,seval,reduceIte,List.map,AV.cells,List.all,AV.one,eqV,eqAll,splice,fillA,List.replicate,resAll,resA,zm,zg,gb,a136]
   refine OK_fn hr0 ?_
   rintro rv1 m2 ⟨k2,s2,_⟩
   have hM2:=hM.keep k2
   obtain⟨ov2,m3,happ2,f3,hM3⟩:=hM2.pushO s2 (by omega) (by omega)
   obtain⟨st3,o3,gj3,hr3⟩:=hM3.kb.mem
   have hr1:=ring_run (c:=c) (p:=1) gj3 hr3 hM3.kb.okL
   have gb3:=hM3.kb.box
   simp only[cfC] at gb3 hr1
   simp(disch:=first|assumption|omega|(simp only[zl]<;>omega)|(simp only[zn])) only[↓zd,zk,seval,reduceIte,List.map,AV.cells,List.all,AV.one,eqV,eqAll,splice,fillA,List.replicate,resAll,resA,zm,zg,evA,happ2,gb3,a136]
   refine OK_fn hr1 ?_
   rintro rv4 m4 ⟨k4,s4,_⟩
   have hM4:=hM3.keep k4
   obtain⟨ov5,m5,happ5,f5,hM5⟩:=hM4.pushO s4 (by rw[List.length_append];omega) (by omega)
   simp(disch:=first|assumption|omega|(simp only[zl]<;>omega)|(simp only[zn])) only[↓zd,zk,seval,reduceIte,List.map,AV.cells,List.all,AV.one,eqV,eqAll,splice,fillA,List.replicate,resAll,resA,zm,zg,evA,happ5,a280]
   refine OK_fn (bag_run hM5.ka.si hM5.ko.si (by omega) hpm) ?_
   rintro _ _ ⟨rfl,rfl⟩
   simp(disch:=first|assumption|omega|(simp only[zl]<;>omega)|(simp only[zn])) only[↓zd,zk,seval,reduceIte,List.map,AV.cells,List.all,AV.one,eqV,eqAll,splice,fillA,List.replicate,resAll,resA,zm,zg,a268,pureF,worksG]
   exact hM5.kb.k0
  by_cases hk:0 < s.k
  ·rw[if_pos hk] at hpm
   have hd:decide (0 < s.k)=true:=decide_eq_true hk
   have hM3:=hM1.keep (Keep.app m1 [Chunk.cells 1 false [.int .i64 (gotV s)]])
   obtain⟨ov',m4,happ,f4,hM4⟩:=hM3.pushO (lit_si m1 (gotV s)) (by omega) (by simp)
   simp(disch:=first|assumption|omega|(simp only[zl]<;>omega)|(simp only[zn])) only[↓zd,zk,seval,reduceIte,List.map,AV.cells,List.all,AV.one,eqV,eqAll,splice,fillA,List.replicate,resAll,resA,zm,zg,ev_len,hlfl,Int.ofNat_zero,hdn,a275,hmn1,hk,hd,evA,fillA,repeatL,List.flatten_cons,List.flatten_nil,happ]
   exact tail _ _ _ _ _ _ _ _ _ _ _ _ _ _ _ _ _ _ _ hM4 (by simp;omega) hpm
  ·rw[if_neg hk,List.append_nil] at hpm
   have hd:decide (0 < s.k)=false:=decide_eq_false hk
   simp(disch:=first|assumption|omega|(simp only[zl]<;>omega)|(simp only[zn])) only[↓zd,zk,seval,reduceIte,List.map,AV.cells,List.all,AV.one,eqV,eqAll,splice,fillA,List.replicate,resAll,resA,zm,zg,ev_len,hlfl,Int.ofNat_zero,hdn,a275,hmn1,hk,hd]
   exact tail _ _ _ _ _ _ _ _ _ _ _ _ _ _ _ _ _ _ _ hM1 (by omega) hpm
 ·rw[decide_eq_false ha] at hdn
  have e1:IntKind.i64.wrap ((u:Int)+1)=u+1:=wrapI (by omega) (by omega)
  simp(disch:=first|assumption|omega|(simp only[zl]<;>omega)|(simp only[zn])) only[↓zd,zk,seval,reduceIte,List.map,AV.cells,List.all,AV.one,eqV,eqAll,splice,fillA,List.replicate,resAll,resA,zm,zg,a277,hdn,a274]
  refine OK_fn (sstepQ_run hM.kt.tq gj hr htok (.inr hM.kb.okL)) ?_
  rintro r m2 ⟨hP,_⟩
  obtain⟨okx,⟨r',hr',hlt,hK2⟩,_⟩:=hK.steal htok hp0 hp1 hq8 b0 b1 (by omega)
  have hlt:=hlt ha
  obtain⟨rfl,f2,hM2⟩:=hM.steal hP (htok.step (.inr hM.kb.okL)) okx
  simp(disch:=first|assumption|omega|(simp only[zl]<;>omega)|(simp only[zn])) only[↓zd,zk,seval,reduceIte,List.map,AV.cells,List.all,AV.one,eqV,eqAll,splice,fillA,List.replicate,resAll,resA,zm,zg,e1]
  exact⟨r',hlt,u+1,_,_,_,_,_,_,_,_,_,_,_,_,_,_,_,_,_,_,_,rfl,by omega,hM2,hK2⟩
end Go.Am.F11
end
section
namespace Go.Am.F11
open Go.Am.F06 Go.Am.F10 Go.Am.F09
def keN(c:Cf):Int:=if c.n > 2 then c.n else 2
def keC(c:Cf):Cf:=⟨keN c,c.q,c.g,keN c+1,c.t,c.s⟩
theorem ke_ok(c0:Cf):thereP (keC (madeC c0)) 0∧thereP (keC (madeC c0)) 1∧(keC (madeC c0)).q≤8∧2≤keN (madeC c0)∧keN (madeC c0)≤4:=by
 obtain⟨h1,h2,h3,h4,h5,h6⟩:=made_right c0
 have hn:2≤keN (madeC c0)∧keN (madeC c0)≤4:=by
  have:(madeC c0).n≤4:=by
   show 1+c0.n % 4≤4
   have:=Int.emod_lt_of_pos c0.n (b:=4) (by omega);omega
  unfold keN;split<;>omega
 have hq8:(madeC c0).q≤8:=by unfold madeC q3;simp only;split<;>(try split)<;>omega
 have hr:rightP (keC (madeC c0)):=⟨⟨by show 1≤keN _;omega,by show keN _≤8;omega⟩,h2,h3,⟨Int.le_refl _,by show keN _+1≤16;omega⟩,h5,h6⟩
 exact⟨⟨hr,by omega,by show 0 < keN _;omega⟩,⟨hr,by omega,by show 1 < keN _;omega⟩,hq8,hn⟩
theorem su_put{m:MM} {xs:List Int} {q o n:Nat} {cap:Option Nat} {L:List AV} (h:SU m true xs (.sl q o n cap)) (hq:m[q]?=some (.cells 1 false L)) {i:Nat} (hi:i < xs.length) (x:Int):SU (m.set q (.cells 1 false (L.set (o+i) (.int .u64 x)))) true (xs.set i x) (.sl q o n cap):=by
 obtain⟨hlen,hsl⟩:=h
 rcases hsl with⟨h,_⟩|⟨q',o',cap',h,h5⟩
 ·cases h
 ·injection h with e1 e2 e3 e4;subst e1;subst e2;subst e3;subst e4
  obtain⟨ro,L',d1,d2,d3,d4⟩:=h5 (by omega)
  rw[hq] at d1;injection d1 with d1;injection d1 with _ _ d1;subst d1
  refine⟨by simp[uC_len],.inr ⟨q,o,cap,by rw[List.length_set],fun _=>⟨false,_,List.getElem?_set_self (List.getElem?_eq_some_iff.1 hq).1,?_,by simpa using d3,fun _=>rfl⟩⟩⟩
  rw[List.length_set,List.drop_set,if_neg (by omega),List.take_set,d2,uC,uC,List.map_set]
  congr 1;omega
set_option maxHeartbeats 8000000 in
theorem ring_nil{m:MM} {c:Cf} {p o:Int} {xs:List Int} {j:Nat} {st:MemSt} (hj:m[j]?=some (.abs (.mem st))) (hr:RelM xs o st) (hx:OkL c xs) (h:thereP c p) (h0:ringL c p xs=[]) :
  Fn F10.Gring F10.docs_Ring [.agg (cfC c),.ptr j 0,.int .i64 p] m (fun r _=>r = .nils):=by
 have a47:assoc F10.Gring 47=some (memNF allS):=rfl
 have a156:assoc F10.Gring 156=some F10.c_conf_Config_Cells:=rfl
 have a159:assoc F10.Gring 159=some F10.c_conf_Config_Word:=rfl
 have a160:assoc F10.Gring 160=some F10.c_conf_Config_Slot:=rfl
 generalize F10.Gring=G at a47 a156 a159 a160 ⊢
 have lj:j < m.length:=(List.getElem?_eq_some_iff.1 hj).1
 have hcn:=cellsN_le c
 have hxl:=hx.1
 have hj1:(m++[Chunk.cells 6 false (cfC c)])[j]?=some (.abs (.mem st)):=by rw[List.getElem?_append_left lj];exact hj
 obtain⟨rfl,_,_⟩:=hr
 obtain⟨l,f47,sl,_⟩:=all_of hj1 (by omega)
 have hlen:=sl.len
 rw[hxl] at hlen
 have g0:(m++[Chunk.cells 6 false (cfC c)]++[.cells 1 false (uC st.cells)])[m.length]?=some (Chunk.cells 6 false (cfC c)):=by rw[List.append_assoc,get_mid0];rfl
 have hk0:Keep m (m++[Chunk.cells 6 false (cfC c)]++[.cells 1 false (uC st.cells)]):=by rw[List.append_assoc];exact Keep.app _ _
 generalize hM:m++[Chunk.cells 6 false (cfC c)]++[.cells 1 false (uC st.cells)]=M1 at f47 sl g0 hk0
 have hc:=fun K:MM=>cells_eq (M1++K) c
 obtain⟨J,hcells⟩:=cells_eq M1 c
 have hw:=fun K:MM=>word_run (m:=M1++K) c p
 have g0':=fun K:MM=>(Keep.app M1 K).get g0
 simp only[cfC,List.cons_append,List.nil_append,List.append_assoc] at hcells hw g0 g0' f47
 refine Fn_of rfl ?_
 ·have hb:=there_bounds h
  have ha0:=addr_b h (i:=0) (by omega) (by omega)
  have hwt:(addrA c p 0).toNat=wrdN c p:=rfl
  obtain⟨w,hw1⟩:∃ w,st.cells[wrdN c p]?=some w:=⟨_,List.getElem?_eq_getElem (by omega)⟩
  have hwd:st.cells.getD (wrdN c p) 0=w:=by rw[List.getD_eq_getElem?_getD,hw1];rfl
  have hw64:W64 w:=hx.2 w (List.mem_of_getElem? hw1)
  obtain⟨q,oo,cap,ro,L,rfl,b2,b3,b4,b5,b6⟩:=SU.get sl hw1
  have b2':=fun K:MM=>(Keep.app M1 K).get b2
  simp(disch:=first|assumption|omega|(simp only[zl]<;>omega)|(simp only[zn])) only[F10.docs_Ring,↓zd,zk,seval,reduceIte,List.map,AV.cells,List.all,AV.one,eqV,eqAll,splice,fillA,List.replicate,resAll,resA,zm,zg,cfC,a47,f47,ev_len,hlen,g0,g0',a156,hcells,a159,hw,b2',b6,hwt,shr_eq]
  have hN:=ringN_le h w
  have hhb:=hd_b hw64
  have eh:IntKind.u32.wrap (w / 4294967296)=hd w:=by rw[wrap32];unfold hd;unfold W64 at hw64;omega
  have et:IntKind.u32.wrap w=tl w:=wrap32 w
  have esz:IntKind.u32.wrap (tl w - hd w)=sz w:=wrap32 _
  have e0:IntKind.u32.wrap c.q=c.q:=by rw[wrap32];omega
  have hsz0:0≤sz w:=by unfold sz;omega
  rw[eh,et]
  rw[ringL,if_pos h,hwd] at h0
  have hn0:ringN c w=0:=by rw[← ringW_len c p st.cells w (ringN c w),h0];rfl
  clear hw g0' b2' hcells hM f47 hj hj1 hw1 b6 b4 b5
  generalize hM0:M1++_=M0
  have hK1:Keep M1 M0:=by rw[← hM0];exact Keep.app _ _
  have g0:=hK1.get g0
  have b2:=hK1.get b2
  have sl:=sl.keep hK1
  have hmk:Keep m M0:=hk0.trans hK1
  clear hM0 hK1 hk0
  refine W_loop (fun k e mm=>∃ y11 y12 y13 y14:AV,e=[.agg (cfC c),.ptr j 0,.int .i64 p,.ptr m.length 0,.nils,.nils,.sl q oo st.cells.length cap,.int .u64 w,.int .u32 (hd w),.int .u32 (tl w),.int .u32 0,y11,y12,y13,y14]∧mm=M0) 0 (by simp only[FUEL];omega) ⟨_,_,_,_,rfl,rfl⟩ ?_
  rintro k e mm ⟨y11,y12,y13,y14,rfl,rfl⟩
  by_cases hle:sz w≤c.q
  ·have hz:sz w=0:=by
    unfold ringN at hn0;rw[if_pos hle] at hn0;omega
   simp(disch:=first|assumption|omega|(simp only[zl]<;>omega)|(simp only[zn])) only[↓zd,zk,seval,reduceIte,List.map,AV.cells,List.all,AV.one,eqV,eqAll,splice,fillA,List.replicate,resAll,resA,zm,zg,cfC,esz,e0,g0,hz]
  ·have hpos:(0:Int) < sz w:=by omega
   simp(disch:=first|assumption|omega|(simp only[zl]<;>omega)|(simp only[zn])) only[↓zd,zk,seval,reduceIte,List.map,AV.cells,List.all,AV.one,eqV,eqAll,splice,fillA,List.replicate,resAll,resA,zm,zg,cfC,esz,e0,g0,hpos]
theorem ring_run2{m:MM} {c:Cf} {p o:Int} {xs:List Int} {j:Nat} {st:MemSt} (hj:m[j]?=some (.abs (.mem st))) (hr:RelM xs o st) (hx:OkL c xs) (h:thereP c p) :
  Fn F10.Gring F10.docs_Ring [.agg (cfC c),.ptr j 0,.int .i64 p] m (fun r m'=>Keep m m'∧SI m' true (ringL c p xs) r∧∃ qa,Rw m' qa (ringL c p xs).length 1 (iC (ringL c p xs)) r∧(0 < (ringL c p xs).length→m.length≤qa∧qa < m'.length)):=by
 obtain⟨r,m',h1,h2,h3,_,_,h5⟩:=ring_run (p:=p) hj hr hx
 refine⟨r,m',h1,h2,h3,?_⟩
 rcases h5 with⟨e1,e2,e3⟩|⟨qa,e1,e2,e3,e4⟩
 ·exact⟨0,.inl ⟨e1,e2,e3⟩,fun h=>by omega⟩
 ·by_cases h0:0 < (ringL c p xs).length
  ·exact⟨qa,.inr ⟨h0,e1,e2⟩,fun _=>⟨e3,e4⟩⟩
  ·obtain⟨r',m'',h1',rfl⟩:=ring_nil (p:=p) hj hr hx h (List.length_eq_zero_iff.1 (by omega))
   rw[h1] at h1'
   injection h1' with h1'
   injection h1' with h1' _
   rw[h1'] at e1;cases e1
theorem skeeps_body:law11_StealKeeps={ nloc:=31,npar:=3,res:=[.loc 4],body:=.seq (sqN 0 law11_StealKeeps.body) (.seq (sqN 1 law11_StealKeeps.body) (.seq (sqN 2 law11_StealKeeps.body) (.seq (sqN 3 law11_StealKeeps.body) (.seq (sqN 4 law11_StealKeeps.body) (.seq (sqN 5 law11_StealKeeps.body) (.seq (sqN 6 law11_StealKeeps.body) (.seq (sqN 7 law11_StealKeeps.body) (.seq (sqN 8 law11_StealKeeps.body) (.seq (sqN 9 law11_StealKeeps.body) (.seq (sqN 10 law11_StealKeeps.body) (.seq (sqN 11 law11_StealKeeps.body) (.seq (sqN 12 law11_StealKeeps.body) (.seq (sqN 13 law11_StealKeeps.body) (.seq (sqN 14 law11_StealKeeps.body) (.seq (.seq (.region [⟨.mov,[.c (.int .i64 0)],some 13,none⟩]) (.block 0 (.loop (.seq skC (.seq (.block 1 skT) skI))))) skE))))))))))))))) }:=rfl
def SkI(M0:MM) (c0 c:Cf) (bv lv x5:AV) (bb j xj:Nat) (H0 h0:Int) (n:Nat) (k:Nat) (e:List AV) (m:MM):Prop:=∃ i,i≤n∧k=n - i∧SkN M0 c0 c bv lv x5 bb j xj H0 h0 i i e m
set_option maxHeartbeats 16000000 in
theorem skeeps_run{m0:MM} {c0:Cf} {bs:List Int} {ls:List (Int × Int)} {bv lv:AV} (hB:SB m0 bs bv) (hb:∀ x,x ∈ bs→0≤x∧x < 256) (hL:STn m0 false ls lv) :
  Fn Gsk law11_StealKeeps [.agg (cfC c0),bv,lv] m0 (fun r m'=>r = .bool true∧Keep m0 m'):=by
 have a268:assoc Gsk 268=some (pureF worksG):=rfl
 have a133:assoc Gsk 133=some F10.c_docs_Made:=rfl
 have a134:assoc Gsk 134=some F10.c_docs_Filled:=rfl
 have a159:assoc Gsk 159=some F10.c_conf_Config_Word:=rfl
 have a135:assoc Gsk 135=some (amFunc F10.Gmem F10.docs_Mem):=rfl
 have a136:assoc Gsk 136=some (amFunc F10.Gring F10.docs_Ring):=rfl
 have a270:assoc Gsk 270=some c_steal_New:=rfl
 have a185:assoc Gsk 185=some F09.c_put_New:=rfl
 have hfe:F10.c_docs_Filled (X:=Ob)=amFunc F10.Gfill F10.docs_Filled:=rfl
 have hpe:F09.c_put_New (X:=Ob)=amFunc [(206,F09.c_put_from)] F09.put_New:=rfl
 have hne:c_steal_New (X:=Ob)=amFunc [(159,F10.c_conf_Config_Word)] steal_New:=rfl
 have hlenb:=hB.len
 have hlenl:=hL.len
 rw[skeeps_body]
 refine Fn_of rfl ?_
 by_cases h1:150 < ls.length
 ·simp(disch:=first|assumption|omega|(simp only[zl]<;>omega)|(simp only[zn])) only[sqN,law11_StealKeeps,↓zd,zk,seval,reduceIte,List.map,AV.cells,List.all,AV.one,eqV,eqAll,splice,fillA,List.replicate,resAll,resA,zm,zg,cfC,ev_len,hlenl,hlenb,a268,pureF,worksG]
  exact .app _ _
 by_cases h2:40 < bs.length
 ·simp(disch:=first|assumption|omega|(simp only[zl]<;>omega)|(simp only[zn])) only[sqN,law11_StealKeeps,↓zd,zk,seval,reduceIte,List.map,AV.cells,List.all,AV.one,eqV,eqAll,splice,fillA,List.replicate,resAll,resA,zm,zg,cfC,ev_len,hlenl,hlenb,a268,pureF,worksG]
  exact .app _ _
 have fmade:=fun m:MM=>made_eq m c0
 obtain⟨hp0,hp1,hq8,hN2,hN4⟩:=ke_ok c0
 have hN:(if (madeC c0).n > 2 then(madeC c0).n else 2)=keN (madeC c0):=rfl
 have hN':(if 2 < (madeC c0).n then(madeC c0).n else 2)=keN (madeC c0):=rfl
 have e1:IntKind.i64.wrap (keN (madeC c0)+1)=keN (madeC c0)+1:=wrapI (by omega) (by omega)
 simp only[cfC,List.cons_append,List.nil_append] at fmade
 simp(disch:=first|assumption|omega|(simp only[zl]<;>omega)|(simp only[zn])) only[sqN,law11_StealKeeps,↓zd,zk,seval,reduceIte,List.map,AV.cells,List.all,AV.one,eqV,eqAll,splice,fillA,List.replicate,resAll,resA,zm,zg,cfC,ev_len,hlenl,hlenb,a133,fmade,hN,hN',e1,a134,hfe]
 have gb0:(m0++[Chunk.cells 6 false (cfC (keC (madeC c0))),.cells 6 false (cfC c0),.cells 6 false (cfC (madeC c0))])[m0.length]?=some (Chunk.cells 6 false (cfC (keC (madeC c0)))):=by rw[get_mid0];rfl
 have hfl:=filled_runG (c:=keC (madeC c0)) (hB.keep (Keep.app m0 [Chunk.cells 6 false (cfC (keC (madeC c0))),.cells 6 false (cfC c0),.cells 6 false (cfC (madeC c0))])) hb
 simp only[cfC,keC] at hfl
 refine OK_fn hfl ?_
 rintro r1 m1 ⟨xs,k1,s1,x1,x2,hG,hfr⟩
 have hG:OkG (keC (madeC c0)) xs:=hG
 have x1:xs.length=cellsN (keC (madeC c0)):=x1
 have gb1:=k1.get gb0
 have hk1:Keep m0 m1:=(Keep.app m0 _).trans k1
 clear hfl gb0 k1 hN hN' e1 fmade
 generalize keC (madeC c0)=c at hp0 hp1 hq8 hG x1 gb1
 have hcn:=cellsN_le c
 have hx:OkL c xs:=⟨x1,x2⟩
 have hA0:=addr_b hp0 (i:=0) (by omega) (by have:=there_bounds hp0;omega)
 have hwn:addrA c 0 0=((wrdN c 0:Nat):Int):=by unfold wrdN;omega
 have hlt:wrdN c 0 < xs.length:=by omega
 have hw:=fun m:MM=>word_run (m:=m) c 0
 simp only[hwn,cfC,List.cons_append,List.nil_append] at hw
 obtain⟨q,oo,cap,ro,L,rfl,b2,b3,b4,b5⟩:=s1.at (by omega)
 have b5:=b5 rfl
 subst b5
 have hlr:=s1.len
 have hLg:L[oo+wrdN c 0]?=some (.int .u64 (xs.getD (wrdN c 0) 0)):=by
  rw[← Nat.mul_one (wrdN c 0),sl_get b3 (by omega),Nat.mul_one,uC,List.getElem?_map,List.getElem?_eq_getElem hlt,List.getD_eq_getElem?_getD,List.getElem?_eq_getElem hlt];rfl
 have hgw:=getD_64 x2 (wrdN c 0)
 have ht:IntKind.u32.wrap (xs.getD (wrdN c 0) 0)=tl (xs.getD (wrdN c 0) 0):=by rw[wrap32];rfl
 have htb:=tl_b (xs.getD (wrdN c 0) 0)
 generalize htv:tl (xs.getD (wrdN c 0) 0)=tv at ht htb
 have e2:IntKind.u64.wrap tv=tv:=wrapU htb.1 (by omega)
 have e3:IntKind.u64.wrap (tv * 4294967296)=tv * 4294967296:=wrapU (by omega) (by omega)
 have e4:tv * 4294967296 / 4294967296=tv:=by omega
 have e5:=or_eq htb.1 htb.2 htb.1 htb.2
 have b2':=fun K:MM=>(Keep.app m1 K).get b2
 have gb1':=fun K:MM=>(Keep.app m1 K).get gb1
 have lq:q < m1.length:=(List.getElem?_eq_some_iff.1 b2).1
 have lb:m0.length < m1.length:=(List.getElem?_eq_some_iff.1 gb1).1
 have hqb:q≠m0.length:=fun h=>by rw[h,gb1] at b2;cases b2
 simp only[cfC] at gb1 gb1'
 simp(disch:=first|assumption|omega|(simp only[zl]<;>omega)|(simp only[zn])) only[↓zd,zk,seval,reduceIte,List.map,AV.cells,List.all,AV.one,eqV,eqAll,splice,fillA,List.replicate,resAll,resA,zm,zg,cfC,ev_len,hlr,gb1,gb1',a159,hw,b2,b2',hLg,ht,e2,shl_eq,e3,shr_eq,e4,e5,a135]
 have hqm:m0.length≤q:=by
  rcases hfr with h|⟨_,_,_,_,h,h'⟩
  ·cases h
  ·injection h with e1;simp at h';omega
 have s3:=su_put (su_put s1 b2 hlt (tv * 4294967296)) (List.getElem?_set_self lq) (by rw[List.length_set];exact hlt) (pk tv tv)
 rw[show (xs.set (wrdN c 0) (tv * 4294967296)).set (wrdN c 0) (pk tv tv)=xs.set (wrdN c 0) (pk tv tv) from List.set_set ..] at s3
 have hk3:Keep m0 ((m1.set q (.cells 1 false (L.set (oo+wrdN c 0) (.int .u64 (tv * 4294967296))))).set q (.cells 1 false ((L.set (oo+wrdN c 0) (.int .u64 (tv * 4294967296))).set (oo+wrdN c 0) (.int .u64 (pk tv tv))))):=(hk1.set hqm _).set hqm _
 have gb3:((m1.set q (.cells 1 false (L.set (oo+wrdN c 0) (.int .u64 (tv * 4294967296))))).set q (.cells 1 false ((L.set (oo+wrdN c 0) (.int .u64 (tv * 4294967296))).set (oo+wrdN c 0) (.int .u64 (pk tv tv)))))[m0.length]?=some (.cells 6 false (cfC c)):=by
  rw[List.getElem?_set_ne hqb,List.getElem?_set_ne hqb];exact gb1
 have hsz:sz (pk tv tv)=0:=by unfold sz;rw[hd_pk htb.1 htb.2,tl_pk htb.1 htb.2];omega
 have hbb:=there_bounds hp0
 have hG2:OkG c (xs.set (wrdN c 0) (pk tv tv)):=hG.setw hp0 (by rw[hsz];omega)
 have hx2:OkL c (xs.set (wrdN c 0) (pk tv tv)):=hx.set _ (by unfold W64 pk;omega)
 have hw02:(xs.set (wrdN c 0) (pk tv tv)).getD (wrdN c 0) 0=pk tv tv:=by rw[List.getD_eq_getElem?_getD,List.getElem?_set_self hlt];rfl
 generalize (m1.set q (.cells 1 false (L.set (oo+wrdN c 0) (.int .u64 (tv * 4294967296))))).set q (.cells 1 false ((L.set (oo+wrdN c 0) (.int .u64 (tv * 4294967296))).set (oo+wrdN c 0) (.int .u64 (pk tv tv))))=M3 at s3 hk3 gb3 ⊢
 generalize xs.set (wrdN c 0) (pk tv tv)=xs2 at s3 hG2 hx2 hw02
 have hlen2:=s3.len
 clear hfr gb1 gb1' b2 b2' b3 b4 hLg s1 hG x1 x2 hx hgw ht htv e2 e3 e4 e5 hw hwn
 have hl600:xs2.length≤65536:=by have:=hx2.1;omega
 have hmr:=fun K:MM=>mem_run (s3.keep (Keep.app M3 K)) hl600
 have hb3:m0.length < M3.length:=(List.getElem?_eq_some_iff.1 gb3).1
 refine OK_fn (hmr _) ?_
 rintro _ m4 ⟨st,mv,rfl,k4,g4,rm,s4⟩
 have gb4:=k4.get ((Keep.app M3 _).get gb3)
 have hk4:Keep m0 m4:=(hk3.trans (Keep.app M3 _)).trans k4
 have hone:=slOne s4
 simp only[AV.one] at hone
 simp only[cfC] at gb4
 generalize hjv:List.length (M3++_)+1=j at g4 ⊢
 have hjb:m0.length < j:=by rw[← hjv,List.length_append];omega
 clear hjv
 clear hmr k4 s3 hk3 gb3 hlen2
 have gb4':=fun K:MM=>(Keep.app m4 K).get gb4
 simp(disch:=first|assumption|omega|(simp only[zl]<;>omega)|(simp only[zn])) only[↓zd,zk,seval,reduceIte,List.map,AV.cells,List.all,AV.one,eqV,eqAll,splice,fillA,List.replicate,resAll,resA,zm,zg,memC,hone,cfC,gb4,gb4',a136]
 have hrn:=fun K:MM=>ring_run2 (c:=c) (p:=1) ((Keep.app m4 K).get g4) rm hx2 hp1
 simp only[cfC] at hrn
 refine OK_fn (hrn _) ?_
 rintro rv m5 ⟨k5,s5,qa,hra,hqa⟩
 have k45:=(Keep.app m4 _).trans k5
 have gb5:=k45.get gb4
 have g5:=k45.get g4
 have l5:m4.length+1≤m5.length:=by have:=k5.1;simpa using this
 have lj4:j < m4.length:=(List.getElem?_eq_some_iff.1 g4).1
 have hone5:=slOne s5
 simp only[AV.one] at hone5
 have hnw:=fun M:MM=>snew_run (m:=M) c 0 1
 simp only[cfC] at hnw
 simp(disch:=first|assumption|omega|(simp only[zl]<;>omega)|(simp only[zn])) only[↓zd,zk,seval,reduceIte,List.map,AV.cells,List.all,AV.one,eqV,eqAll,splice,fillA,List.replicate,resAll,resA,zm,zg,cfC,hone5,gb5,a270,hne]
 refine OKT_fn (hnw _) ?_
 rintro _ m6 ⟨k6,xj,rfl,hxl,hgx⟩
 have gb6:=k6.get gb5
 have hpn:=fun M:MM=>pnew_run (m:=M) (c:=c) (p:=1) (g:=1000)
 simp only[cfC] at hpn
 simp(disch:=first|assumption|omega|(simp only[zl]<;>omega)|(simp only[zn])) only[↓zd,zk,seval,reduceIte,List.map,AV.cells,List.all,AV.one,eqV,eqAll,splice,fillA,List.replicate,resAll,resA,zm,zg,cfC,gb6,gb5,a185,hpe]
 refine OKT_fn (hpn _) ?_
 rintro _ m7 ⟨pj,phv,rfl,hpl,k7,hpm,hpf⟩
 have l46:=k6.1
 have l67:=k7.1
 have lx:xj < m6.length:=(List.getElem?_eq_some_iff.1 hgx).1
 have lp:pj < m7.length:=(List.getElem?_eq_some_iff.1 hpm.get).1
 have hl4:=hk4.1
 have hb4:m0.length < m4.length:=(List.getElem?_eq_some_iff.1 gb4).1
 have hqa':0 < (ringL c 1 xs2).length→m4.length+1≤qa∧qa < m5.length:=fun h=>by have:=hqa h;simpa using this
 obtain⟨own,how⟩:∃ own:Nat→Nat,own=newO (fun i=>if i=xj then 1 else if i=j then 5 else if i=m0.length then 6 else if i=qa∧0 < (ringL c 1 xs2).length then 3 else 0) m6 m7 2:=⟨_,rfl⟩
 have hold:∀ i,i < m6.length→own i=if i=xj then 1 else if i=j then 5 else if i=m0.length then 6 else if i=qa∧0 < (ringL c 1 xs2).length then 3 else 0:=fun i hi=>by rw[how,newO_old hi]
 have hnew:∀ i,m6.length≤i→i < m7.length→own i=2:=fun i h h'=>by rw[how,newO_new h h']
 have hq1:sz (xs2.getD (wrdN c 1) 0)≤c.q:=hG2.f.at' 1 hp1
 have hrl:=ring_len hp1 hq1
 have hth:thereS c 0 1:=⟨hp0,hp1,by decide⟩
 have k47:=(k45.trans k6).trans k7
 have hKM:KM m0 c m0.length j xj pj own (newT c 0 1) (newS c 1 1000) 1000 xs2 (ringL c 1 xs2) [] rv .nils m7:=by
  refine⟨⟨fun i hi=>?_,fun i hi=>?_,hk4.trans k47,k47.get gb4,?_,?_,⟨st,_,k47.get g4,rm⟩,hx2⟩,⟨⟨?_,.nilp,.nils,k7.get hgx,.inl ⟨rfl,rfl,?_,?_,rfl⟩,.inl ⟨rfl,rfl⟩⟩,newT_ok c 0 1⟩,⟨⟨pj,.nils,phv,hpm,hnew _ hpl lp,hnew _ hpl lp,?_⟩,newS_ok c 1 1000⟩,⟨⟨qa,hra.keep fun h0=>(k6.trans k7).2 qa (hqa h0).2,fun h0=>?_⟩⟩,⟨⟨0,.inl ⟨rfl,rfl,rfl⟩,fun h=>by cases h⟩⟩⟩
  ·rw[hold i (by omega),if_neg (by omega),if_neg (by omega),if_neg (by omega),if_neg (fun h=>by have:=hqa' h.2;omega)]
  ·rw[how];unfold newO
   rw[if_neg (by omega)];dsimp only
   rw[if_neg (by omega),if_neg (by omega),if_neg (by omega),if_neg (fun h=>by have:=hqa' h.2;omega)]
  ·rw[hold _ (by omega),if_neg (by omega),if_neg (by omega),if_pos rfl]
  ·rw[hold _ (by omega),if_neg (by omega),if_pos rfl]
  ·show own xj=1
   rw[hold _ lx,if_pos rfl]
  ·unfold newT;simp only[if_pos hth];decide
  ·unfold newT;simp only[if_pos hth];decide
  ·rw[how];exact Tag.fr hpf hpm.h
  ·have h9:=hqa' h0
   rw[hold _ (by omega),if_neg (by omega),if_neg (by omega),if_neg (by omega),if_pos ⟨rfl,h0⟩]
 have hns:newS c 1 1000=⟨1,0,[],[1000]⟩:=if_pos ⟨hp1,by decide⟩
 have hKK:KK c (hd (xs2.getD (wrdN c 1) 0)) tv 0 60 (newT c 0 1) (newS c 1 1000) 1000 xs2 (ringL c 1 xs2) []:=by
  have hw1:=hd_b (getD_64 hx2.2 (wrdN c 1))
  rw[hns]
  refine⟨⟨0,by omega,by rw[Int.emod_eq_of_lt (by omega) (by omega)];omega,.inl ⟨rfl,.inr ⟨by unfold newT;simp only[if_pos hth],by omega⟩,hw02⟩⟩,⟨_,_,_,KG.start hx2 hp1 hq1,hrl,hq1,getD_64 hx2.2 _⟩,(by show ¬ ((1:Int)=0);decide),fun x hx=>?_,by omega,?_,by omega⟩
  ·rw[ringL_there hp1] at hx
   obtain⟨i,_,rfl⟩:=List.mem_map.1 hx
   have hs:=hG2.s 1 ((hd (xs2.getD (wrdN c 1) 0)+i) % 4294967296) hp1
   unfold ringAt
   rw[wrapI (by omega) (by omega)]
   omega
  ·rw[if_pos (show (newT c 0 1).k=0 from rfl),List.nil_append,List.append_nil]
 rw[hns] at hKM hKK
 clear hold hnew how hqa hqa' hra hpm hpf hgx hw02 hG2 rm g4 g5 gb4 gb4' k5 k6 k7 k45 hrn hnw hpn s4 s5
 have gb7:=hKM.kb.box
 simp only[cfC] at gb7
 simp(disch:=first|assumption|omega|(simp only[zl]<;>omega)|(simp only[zn])) only[↓zd,zk,seval,reduceIte,List.map,AV.cells,List.all,AV.one,eqV,eqAll,splice,fillA,List.replicate,resAll,resA,zm,zg,cfC,gb5,gb6,gb7]
 refine W_loop (SkI m0 c0 c bv lv (.sl q oo xs.length cap) m0.length j xj (hd (xs2.getD (wrdN c 1) 0)) tv ls.length) ls.length (by simp only[FUEL];omega) ⟨0,by omega,rfl,own,_,_,_,_,_,_,_,_,_,⟨_,_,_,_,_,_,_,_,_,_,_,_,_,_,_,_,_,rfl⟩,hKM,hKK⟩ ?_
 clear hKM hKK gb5 gb6 gb7
 rintro k e m ⟨i,hi,rfl,own,s,ps,g,xs3,all,out,av,ov,pj3,⟨z14,z15,z16,z17,z18,z19,z20,z21,z22,z23,z24,z25,z26,z27,z28,z29,z30,rfl⟩,hM,hK⟩
 by_cases hil:i < ls.length
 ·simp(disch:=first|assumption|omega|(simp only[zl]<;>omega)|(simp only[zn])) only[skC,skB,sqN,law11_StealKeeps,↓zd,zk,seval,reduceIte,List.map,AV.cells,List.all,AV.one,eqV,eqAll,splice,fillA,List.replicate,resAll,resA,zm,zg,ev_len,hlenl]
  refine W_mono (skT_run hp0 hp1 hq8 htb.1 htb.2 hL hil (by omega) hM hK) ?_
  rintro _ e2 m2 ⟨rfl,own2,s2,ps2,g2,xs4,all2,out2,av2,ov2,pj4,⟨y14,y15,y16,y17,y18,y19,y20,y21,y22,y23,y24,y25,y26,y27,y28,y29,y30,rfl⟩,hM2,hK2⟩
  have e9:IntKind.i64.wrap ((i:Int)+1)=i+1:=wrapI (by omega) (by omega)
  simp(disch:=first|assumption|omega|(simp only[zl]<;>omega)|(simp only[zn])) only[skI,skB,sqN,law11_StealKeeps,↓zd,zk,seval,reduceIte,List.map,AV.cells,List.all,AV.one,eqV,eqAll,splice,fillA,List.replicate,resAll,resA,zm,zg,e9]
  exact⟨ls.length - (i+1),by omega,i+1,by omega,rfl,own2,s2,ps2,g2,xs4,all2,out2,av2,ov2,pj4,⟨_,_,_,_,_,_,_,_,_,_,_,_,_,_,_,_,_,rfl⟩,hM2,hK2⟩
 ·have hie:i=ls.length:=by omega
  subst hie
  simp(disch:=first|assumption|omega|(simp only[zl]<;>omega)|(simp only[zn])) only[skC,skB,sqN,law11_StealKeeps,↓zd,zk,seval,reduceIte,List.map,AV.cells,List.all,AV.one,eqV,eqAll,splice,fillA,List.replicate,resAll,resA,zm,zg,ev_len,hlenl]
  exact skE_run hp0 hp1 hq8 htb.1 htb.2 (by omega) hM hK
end Go.Am.F11
end
section
namespace Go.Am.F09
open Go.Am.F06 Go.Am.F10
end Go.Am.F09
end
section
namespace Go.Am.F09
open Go.Am.F06 Go.Am.F10
end Go.Am.F09
end
section
namespace Go.Am.F09
open Go.Am.F06 Go.Am.F10
theorem _root_.Go.Am.F10.Rw.n6{m:MM} {q n sz b:Nat} {l L:List AV} {v:AV} (h:Rw m q n sz l v) (hb:m[b]?=some (.cells 6 false L)) (hs:sz≠6):n=0∨b≠q:=by
 rcases h with⟨h,_⟩|⟨_,_,h⟩
 ·exact .inl h
 ·exact .inr fun hh=>by rw[hh,h] at hb;injection hb with hb;injection hb with hb;exact hs hb
theorem _root_.Go.Am.F10.Rw.take{m:MM} {q n:Nat} {xs:List Int} {v:AV} (h:Rw m q n 1 (iC xs) v) (hn:xs.length=n) {k:Nat} (hk:k≤n):∀ M,Keep m M→sliceA M 1 v none (some k) none=some (cutA v k)∧SI M false (xs.take k) (cutA v k):=fun M hM=>by
 subst hn
 have hs:SI m false xs v:=h.sl (by rw[iC_len];omega)
 have hx:Nx m v:=by
  rcases h with⟨_,_,h⟩|⟨_,h,h'⟩
  ·exact .inl h
  ·exact .inr ⟨q,_,_,_,h,h'⟩
 exact si_take (hs.keep hM) (hx.keep hM) hk
theorem spk_rep{M:MM} {q n:Nat} (h:M[q]?=some (.cells 3 false (repeatL n [.bool false,.int .i64 0,.int .u64 0]))):SPk M false (List.replicate n ⟨false,0,0⟩) (.sl q 0 n (some n)):=by
 have hl:(List.replicate n (⟨false,0,0⟩:Pk)).length=n:=List.length_replicate
 have e:(List.replicate n (⟨false,0,0⟩:Pk)).flatMap pkC=repeatL n [.bool false,.int .i64 0,.int .u64 0]:=by
  simp only[repeatL]
  clear h hl
  induction n with
  | zero=>rfl
  | succ n ih=>rw[List.replicate_succ,List.flatMap_cons,ih,List.replicate_succ,List.flatten_cons];rfl
 have hp:=pks_len (List.replicate n (⟨false,0,0⟩:Pk))
 rw[hl] at hp
 rw[SPk,hl,e]
 rw[e] at hp
 exact⟨hp,.inr ⟨q,0,some n,rfl,fun _=>⟨false,_,h,by rw[List.drop_zero,← hp,List.take_length],by omega,fun h=>by cases h⟩⟩⟩
theorem rep_w64(n:Nat):∀ x,x ∈ List.replicate n (⟨false,0,0⟩:Pk)→W64 x.v:=fun x hx=>by
 rw[List.eq_of_mem_replicate hx];unfold W64;simp
end Go.Am.F09
end
section
namespace Go.Am.F12
variable {X:Type}
def c_kit_Pick:AFun X:=amFunc [] kit_Pick
def c_docs_Made:AFun X:=amFunc [(87,c_kit_Pick)] docs_Made
def c_conf_within:AFun X:=amFunc [] conf_within
def c_conf_Config_Right:AFun X:=amFunc [(176,c_conf_within)] conf_Config_Right
def c_conf_own_at:AFun X:=amFunc [(157,c_conf_Config_Right),(176,c_conf_within)] conf_own_at
def c_conf_Config_Word:AFun X:=amFunc [(177,c_conf_own_at)] conf_Config_Word
def c_conf_Config_Cells:AFun X:=amFunc [(157,c_conf_Config_Right)] conf_Config_Cells
def c_cell_New:AFun X:=amFunc [] cell_New
def c_conf_Config_Slot:AFun X:=amFunc [(157,c_conf_Config_Right),(177,c_conf_own_at)] conf_Config_Slot
def c_cell_Mem_there:AFun X:=amFunc [] cell_Mem_there
def c_cell_counts_note:AFun X:=amFunc [] cell_counts_note
def c_cell_Mem_Store_1:AFun X:=amFunc [] cell_Mem_Store_1
def c_cell_Mem_CAS_1:AFun X:=amFunc [] cell_Mem_CAS_1
def c_cell_Mem_Load_1:AFun X:=amFunc [] cell_Mem_Load_1
def c_put_NewLay_1:AFun X:=amFunc [] put_NewLay_1
def c_cell_Mem_access:AFun X:=amFunc [(56,c_cell_Mem_there),(71,c_cell_counts_note),(49,c_cell_Mem_Store_1),(51,c_cell_Mem_CAS_1),(52,c_cell_Mem_Load_1),(213,c_put_NewLay_1)] cell_Mem_access
def c_cell_Mem_Store:AFun X:=amFunc [(50,c_cell_Mem_access),(49,c_cell_Mem_Store_1)] cell_Mem_Store
def c_law11_rings:AFun X:=amFunc [(156,c_conf_Config_Cells),(21,c_cell_New),(160,c_conf_Config_Slot),(22,c_cell_Mem_Store),(159,c_conf_Config_Word)] law11_rings
def c_steal_New:AFun X:=amFunc [(159,c_conf_Config_Word)] steal_New
def c_steal_Steal_Done:AFun X:=amFunc [] steal_Steal_Done
def c_cell_Mem_Load:AFun X:=amFunc [(50,c_cell_Mem_access),(52,c_cell_Mem_Load_1)] cell_Mem_Load
def c_word_Tail:AFun X:=amFunc [] word_Tail
def c_word_Head:AFun X:=amFunc [] word_Head
def c_word_Len:AFun X:=amFunc [(182,c_word_Tail),(179,c_word_Head)] word_Len
def c_steal_Steal_look:AFun X:=amFunc [(159,c_conf_Config_Word),(24,c_cell_Mem_Load),(178,c_word_Len)] steal_Steal_look
def c_word_Older:AFun X:=amFunc [] word_Older
def c_steal_Steal_half:AFun X:=amFunc [(178,c_word_Len),(289,c_word_Older)] steal_Steal_half
def c_steal_Steal_copy:AFun X:=amFunc [(179,c_word_Head),(160,c_conf_Config_Slot),(24,c_cell_Mem_Load),(288,c_steal_Steal_half)] steal_Steal_copy
def c_word_Pack:AFun X:=amFunc [] word_Pack
def c_word_Gain:AFun X:=amFunc [(179,c_word_Head),(182,c_word_Tail),(183,c_word_Pack)] word_Gain
def c_cell_Mem_CAS:AFun X:=amFunc [(50,c_cell_Mem_access),(51,c_cell_Mem_CAS_1)] cell_Mem_CAS
def c_put_from:AFun X:=amFunc [(159,c_conf_Config_Word)] put_from
def c_slices_Clone_int:AFun X:=amFunc [] slices_Clone_int
def c_put_ring_load:AFun X:=amFunc [(159,c_conf_Config_Word),(24,c_cell_Mem_Load),(178,c_word_Len)] put_ring_load
def c_put_Put_look:AFun X:=amFunc [(219,c_put_ring_load)] put_Put_look
def c_put_ring_slot:AFun X:=amFunc [(182,c_word_Tail),(160,c_conf_Config_Slot)] put_ring_slot
def c_put_Put_lay:AFun X:=amFunc [(210,c_put_ring_slot),(22,c_cell_Mem_Store)] put_Put_lay
def c_word_Grow:AFun X:=amFunc [(179,c_word_Head),(182,c_word_Tail),(183,c_word_Pack)] word_Grow
def c_put_ring_change:AFun X:=amFunc [(159,c_conf_Config_Word),(23,c_cell_Mem_CAS)] put_ring_change
def c_put_Put_swing:AFun X:=amFunc [(211,c_word_Grow),(212,c_put_ring_change)] put_Put_swing
def c_put_Put_half:AFun X:=amFunc [] put_Put_half
def c_put_Put_take:AFun X:=amFunc [(220,c_put_Put_half),(210,c_put_ring_slot),(24,c_cell_Mem_Load)] put_Put_take
def c_word_Drop:AFun X:=amFunc [(179,c_word_Head),(182,c_word_Tail),(183,c_word_Pack)] word_Drop
def c_put_Put_cut:AFun X:=amFunc [(220,c_put_Put_half),(221,c_word_Drop),(212,c_put_ring_change)] put_Put_cut
def c_slices_IndexFunc_int:AFun X:=amFunc [(49,c_cell_Mem_Store_1),(51,c_cell_Mem_CAS_1),(52,c_cell_Mem_Load_1),(213,c_put_NewLay_1),(214,c_put_Put_look),(215,c_put_Put_lay),(216,c_put_Put_swing),(217,c_put_Put_take),(218,c_put_Put_cut)] slices_IndexFunc_int
def c_slices_DeleteFunc_int:AFun X:=amFunc [(97,c_slices_IndexFunc_int),(49,c_cell_Mem_Store_1),(51,c_cell_Mem_CAS_1),(52,c_cell_Mem_Load_1),(213,c_put_NewLay_1),(214,c_put_Put_look),(215,c_put_Put_lay),(216,c_put_Put_swing),(217,c_put_Put_take),(218,c_put_Put_cut)] slices_DeleteFunc_int
def c_put_NewLay:AFun X:=amFunc [(206,c_put_from),(208,c_slices_Clone_int),(95,c_slices_DeleteFunc_int),(213,c_put_NewLay_1)] put_NewLay
def c_steal_Steal_gain:AFun X:=amFunc [(159,c_conf_Config_Word),(288,c_steal_Steal_half),(180,c_word_Gain),(23,c_cell_Mem_CAS),(199,c_put_NewLay)] steal_Steal_gain
def c_put_Lay_Done:AFun X:=amFunc [] put_Lay_Done
def c_put_Lay_look:AFun X:=amFunc [(219,c_put_ring_load)] put_Lay_look
def c_put_Lay_Step:AFun X:=amFunc [(196,c_put_Lay_Done),(209,c_put_Lay_look),(210,c_put_ring_slot),(22,c_cell_Mem_Store),(211,c_word_Grow),(212,c_put_ring_change)] put_Lay_Step
def c_steal_Steal_Step:AFun X:=amFunc [(277,c_steal_Steal_Done),(283,c_steal_Steal_look),(284,c_steal_Steal_copy),(285,c_steal_Steal_gain),(195,c_put_Lay_Step)] steal_Steal_Step
def c_steal_Steal_Many:AFun X:=amFunc [] steal_Steal_Many
def c_steal_Steal_Got:AFun X:=amFunc [(277,c_steal_Steal_Done),(275,c_steal_Steal_Many)] steal_Steal_Got
def c_slices_Clone_uint64:AFun X:=amFunc [] slices_Clone_uint64
def c_cell_Mem_All:AFun X:=amFunc [(61,c_slices_Clone_uint64)] cell_Mem_All
def c_docs_Ring:AFun X:=amFunc [(47,c_cell_Mem_All),(156,c_conf_Config_Cells),(159,c_conf_Config_Word),(160,c_conf_Config_Slot)] docs_Ring
def c_kit_SameInts:AFun X:=amFunc [] kit_SameInts
def c_docs_Thief:AFun X:=amFunc [(136,c_docs_Ring),(159,c_conf_Config_Word),(24,c_cell_Mem_Load),(22,c_cell_Mem_Store)] docs_Thief
def c_law11_works:AFun X:=amFunc [(281,c_law11_rings),(270,c_steal_New),(274,c_steal_Steal_Step),(278,c_steal_Steal_Got),(275,c_steal_Steal_Many),(136,c_docs_Ring),(84,c_kit_SameInts),(139,c_docs_Thief)] law11_works
def c_docs_byteAt:AFun X:=amFunc [] docs_byteAt
def c_conf_Config_Next:AFun X:=amFunc [(177,c_conf_own_at)] conf_Config_Next
def c_conf_Config_Stat:AFun X:=amFunc [(177,c_conf_own_at)] conf_Config_Stat
def c_conf_Config_Tick:AFun X:=amFunc [(177,c_conf_own_at)] conf_Config_Tick
def c_conf_Config_Sys:AFun X:=amFunc [(177,c_conf_own_at)] conf_Config_Sys
def c_conf_Config_Flag:AFun X:=amFunc [(177,c_conf_own_at)] conf_Config_Flag
def c_docs_Filled:AFun X:=amFunc [(156,c_conf_Config_Cells),(157,c_conf_Config_Right),(158,c_docs_byteAt),(159,c_conf_Config_Word),(160,c_conf_Config_Slot),(161,c_conf_Config_Next),(162,c_conf_Config_Stat),(163,c_conf_Config_Tick),(164,c_conf_Config_Sys),(165,c_conf_Config_Flag)] docs_Filled
def c_ref06_New:AFun X:=amFunc [] ref06_New
def c_ref06_there:AFun X:=amFunc [] ref06_there
def c_ref06_with:AFun X:=amFunc [] ref06_with
def c_ref06_Store:AFun X:=amFunc [(72,c_ref06_there),(73,c_ref06_with)] ref06_Store
def c_docs_Config:AFun X:=amFunc [] docs_Config
def c_ref05_Right:AFun X:=amFunc [] ref05_Right
def c_ref09_There:AFun X:=amFunc [(181,c_ref05_Right)] ref09_There
def c_ref11_New:AFun X:=amFunc [(169,c_ref09_There)] ref11_New
def c_put_Lay_Hands:AFun X:=amFunc [(208,c_slices_Clone_int)] put_Lay_Hands
def c_steal_rest_Rest:AFun X:=amFunc [(197,c_put_Lay_Hands)] steal_rest_Rest
def c_slices_Grow_int:AFun X:=amFunc [] slices_Grow_int
def c_slices_Concat_int:AFun X:=amFunc [(290,c_slices_Grow_int)] slices_Concat_int
def c_steal_Steal_Hands:AFun X:=amFunc [(275,c_steal_Steal_Many),(286,c_steal_rest_Rest),(287,c_slices_Concat_int)] steal_Steal_Hands
def c_steal_Steal_Left:AFun X:=amFunc [(277,c_steal_Steal_Done),(275,c_steal_Steal_Many),(286,c_steal_rest_Rest)] steal_Steal_Left
def c_ref11_Hands:AFun X:=amFunc [] ref11_Hands
def c_cell_Mem_Len:AFun X:=amFunc [] cell_Mem_Len
def c_cell_Mem_Ops:AFun X:=amFunc [] cell_Mem_Ops
def c_docs_SameCells:AFun X:=amFunc [] docs_SameCells
def c_ref09_Tail:AFun X:=amFunc [] ref09_Tail
def c_ref09_Head:AFun X:=amFunc [] ref09_Head
def c_ref09_Size:AFun X:=amFunc [(171,c_ref09_Tail),(170,c_ref09_Head)] ref09_Size
def c_ref09_Word:AFun X:=amFunc [] ref09_Word
def c_ref06_Load:AFun X:=amFunc [(72,c_ref06_there)] ref06_Load
def c_ref09_Slot:AFun X:=amFunc [(172,c_ref09_Word)] ref09_Slot
def c_ref09_Pack:AFun X:=amFunc [] ref09_Pack
def c_ref06_CAS:AFun X:=amFunc [(72,c_ref06_there),(73,c_ref06_with)] ref06_CAS
def c_ref09_NewLay:AFun X:=amFunc [(169,c_ref09_There)] ref09_NewLay
def c_put_New:AFun X:=amFunc [(206,c_put_from)] put_New
def c_put_Put_Done:AFun X:=amFunc [] put_Put_Done
def c_put_ways:AFun X:=amFunc [(214,c_put_Put_look),(215,c_put_Put_lay),(216,c_put_Put_swing),(217,c_put_Put_take),(218,c_put_Put_cut)] put_ways
def c_law11_same:AFun X:=amFunc [] law11_same
end Go.Am.F12
end
