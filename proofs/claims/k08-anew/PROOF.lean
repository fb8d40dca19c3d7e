import PyProof.Rows.All
import OpenK.AllK
import HandS.ForMost
import HandS.Evl
import HandS.IsInst
import HandS.Wide
import HandS.Conv
import HandS.SortInts
import HandS.SortRule
import HandS.Style
import HandS.EndBits
import HandS.Walk
import HandS.TupLen
import HandS.TupSets
import KE.KDictDisplayH
import PySem.Challenge.RW_lastleft_k08_whole_anew
set_option Elab.async false
set_option linter.all false
set_option maxRecDepth 100000
set_option maxHeartbeats 4000000
/-! W0: words of our own over the hand layer. -/
namespace Lw
open PySem PySem.Spec PyProof.Rows L2 Evl

/-! ### rules that the layer lacks -/
section
variable {X : Cx}
/-- * of whole numbers of any size that the model can hold -/
theorem op_mulZ : OpR X (binaryOp .Mult) (rI IntMulOk fun i j => .int (i * j)) := opI fun _ _ _ _ _ _ _ hc q => mul_int q hc
def tChain3 (r r' r'' : R2) (ta tb tc td : TE) : TE := fun σ H Q => ta σ H fun x H1 => tb σ H1 fun y H2 => r x y H2 fun z H3 => ∃ k, z = .bl k ∧
  (if k = true then tc σ H3 fun y2 H4 => r' y y2 H4 fun z2 H5 => ∃ k2, z2 = .bl k2 ∧ (if k2 = true then td σ H5 fun y3 H6 => r'' y2 y3 H6 Q else Q (.bl false) H5) else Q (.bl false) H3)
theorem pe_chain3 {a b c d : Expr} {ta tb tc td : TE} {pos : Pos} {op op' op'' : CmpOp} {r r' r'' : R2} (ho : OpR X (compareOp op) r) (ho' : OpR X (compareOp op') r') (ho'' : OpR X (compareOp op'') r'') (ha : PE X a ta) (hb : PE X b tb) (hc : PE X c tc) (hd : PE X d td)
    (hm : lastMarks [op, op', op''] [b, c, d] = false := by with_unfolding_all rfl) : PE X (.Compare a [op, op', op''] [b, c, d] pos) (tChain3 r r' r'' ta tb tc td) := by
  refine ⟨fun pins s σ H Q I h => ?_⟩
  refine Compare_chain (thn (ha.run pins s σ H _ I h) fun v s1 ⟨x, H1, I1, r1, q1⟩ => chain_link (thn (hb.run pins s1 σ H1 _ I1 q1) fun u s2 ⟨y, H2, I2, r2, q2⟩ =>
    thn (ho pins s2 σ H2 x y v u _ I2 r1 r2 q2) fun d s3 ⟨z, H3, I3, r3, k, e, q3⟩ => ?_)) hm
  subst e
  cases r3
  refine wpAny_truthy_bool ?_
  cases k with
  | false => exact ite_ff ⟨.bl false, H3, I3, rfl, q3⟩
  | true =>
    refine ite_tt (chain_link (thn (hc.run pins s3 σ H3 _ I3 q3) fun w' s4 ⟨y2, H4, I4, r4, q4⟩ => thn (ho' pins s4 σ H4 y y2 u w' _ I4 r2 r4 q4) fun d' s5 ⟨z2, H5, I5, r5, k2, e2, q5⟩ => ?_))
    subst e2
    cases r5
    refine wpAny_truthy_bool ?_
    cases k2 with
    | false => exact ite_ff ⟨.bl false, H5, I5, rfl, q5⟩
    | true => exact ite_tt (chain_last (thn (hd.run pins s5 σ H5 _ I5 q5) fun w3 s6 ⟨y3, H6, I6, r6, q6⟩ => ho'' pins s6 σ H6 y2 y3 w' w3 Q I6 r4 r6 q6))
end

/-! ### a def of the text as it stands behind the top -/
structure Df (K : PySem.W.Frag) (mg : Str → Option Value) (x : Str) (st : Stmt) (ps : List Str) (f : Addr) (fd : FuncData) : Prop where
  F : Fun K x x st f fd
  b : Binds K fd ps []
  g : mg x = some (.ref f)

/-! ### what evaluates to what, by a word of the value -/
/-- te comes to a value of which R holds, all that was tracked is as it was. R: the heap at its start, the value, the heap behind -/
def EvX (te : TE) (σ : L2.St) (H : Hp) (R : Hp → V → Hp → Prop) : Prop := ∀ H1, Ex H H1 → ∀ Q : VK, (∀ v H2, Ex H1 H2 → R H1 v H2 → Q v H2) → te σ H1 Q
/-- a new list of these items -/
def NL (xs : List V) : Hp → V → Hp → Prop := fun H1 v H2 => ∃ p, v = .ref p ∧ H1 p = none ∧ H2 p = some (.lst xs)
def NU (xs : List V) : Hp → V → Hp → Prop := fun H1 v H2 => ∃ p, v = .ref p ∧ H1 p = none ∧ H2 p = some (.tup xs)
/-- a new dict -/
def ND (kvs : List (Key × V)) : Hp → V → Hp → Prop := fun H1 v H2 => ∃ p, v = .ref p ∧ H1 p = none ∧ H2 p = some (.dK kvs)
/-- pairs of whole numbers as they lie -/
def Prs (H : Hp) (vs : List V) (ps : List (Int × Int)) : Prop := Paired (fun (v : V) (p : Int × Int) => ∃ t, v = .ref t ∧ H t = some (.tup [.int p.1, .int p.2])) vs ps
/-- a new list of pairs -/
def NP (ps : List (Int × Int)) : Hp → V → Hp → Prop := fun H1 v H2 => ∃ p vs, v = .ref p ∧ H1 p = none ∧ H2 p = some (.lst vs) ∧ Prs H2 vs ps
theorem Prs.mono {H H' : Hp} (e : Ex H H') : ∀ {vs : List V} {ps : List (Int × Int)}, Prs H vs ps → Prs H' vs ps
  | _, _, .nil => .nil
  | _, _, .cons ⟨t, h1, h2⟩ r => .cons ⟨t, h1, e _ _ h2⟩ (Prs.mono e r)
theorem Prs.stay {H1 H2 : Hp} {D : Addr} {acc : List V} (hD : H1 D = some (.lst acc)) (hk : ∀ a o, a ≠ D → H1 a = some o → H2 a = some o) : ∀ {vs : List V} {ps : List (Int × Int)}, Prs H1 vs ps → Prs H2 vs ps
  | _, _, .nil => .nil
  | _, _, .cons ⟨t, h1, h2⟩ r => .cons ⟨t, h1, hk t _ (ne_of h2 hD (by intro z; cases z)) h2⟩ (Prs.stay hD hk r)
theorem Prs.len {H : Hp} : ∀ {vs : List V} {ps : List (Int × Int)}, Prs H vs ps → vs.length = ps.length
  | _, _, .nil => rfl
  | _, _, .cons _ r => by rw [List.length_cons, List.length_cons, Prs.len r]
theorem Prs.append {H : Hp} : ∀ {vs ws : List V} {ps qs : List (Int × Int)}, Prs H vs ps → Prs H ws qs → Prs H (vs ++ ws) (ps ++ qs)
  | _, _, _, _, .nil, s => s
  | _, _, _, _, .cons a r, s => .cons a (Prs.append r s)
theorem Prs.get {H : Hp} : ∀ {vs : List V} {ps : List (Int × Int)} {i : Nat} {v : V}, Prs H vs ps → vs[i]? = some v → ∃ p t, ps[i]? = some p ∧ v = .ref t ∧ H t = some (.tup [.int p.1, .int p.2])
  | _, _, _, _, .nil, e => by simp at e
  | _, _, 0, _, .cons ⟨t, h1, h2⟩ _, e => by
    rw [List.getElem?_cons_zero] at e
    cases e
    exact ⟨_, t, rfl, h1, h2⟩
  | _, _, i + 1, _, .cons _ r, e => by
    rw [List.getElem?_cons_succ] at e
    obtain ⟨p, t, h1, h2, h3⟩ := Prs.get r e
    exact ⟨p, t, by rw [List.getElem?_cons_succ]; exact h1, h2, h3⟩

section
variable {K : PySem.W.Frag} {σ : L2.St} {H H' : Hp} {ta tb te tx : TE} {t u : TT} {x y z v : V} {r : R2} {R : Hp → V → Hp → Prop}
theorem EvX.mono (e : Ex H H') (h : EvX te σ H R) : EvX te σ H' R := fun H1 a Q q => h H1 (e.trans a) Q q
theorem ex_v (h : Ev te σ H v) : EvX te σ H (fun _ w _ => w = v) := fun H1 e Q q => h H1 e Q fun H2 e2 => q v H2 e2 rfl
theorem ex_l' {xs : List V} (h : EvL te σ H xs) : EvX te σ H (NL xs) := fun H1 e Q q => h H1 e Q fun p H2 hp e2 h2 => q _ H2 e2 ⟨p, rfl, hp, h2⟩
theorem ev_x (h : EvX te σ H (fun _ w _ => w = v)) : Ev te σ H v := fun H1 e Q q => h H1 e Q fun w H2 e2 ew => by rw [ew]; exact q H2 e2
theorem el_x {xs : List V} (h : EvX te σ H (NL xs)) : EvL te σ H xs := fun H1 e Q q => h H1 e Q fun w H2 e2 ew => by
  obtain ⟨p, rfl, hp, h2⟩ := ew
  exact q p H2 hp e2 h2
/-- len of a list or tuple, list(..) of it -/
theorem ev_lenT {p : Addr} {xs : List V} (ha : Ev ta σ H (.ref p)) (h : SqT K H p xs) : Ev (tCB (rLenS K) (tCons ta tNil)) σ H (.int (xs.length : Int)) := fun H1 e Q q =>
  ha H1 e _ fun H2 e2 => ⟨p, xs, rfl, Or.inr (ex_t (e.trans e2) h), q H2 e2⟩
theorem el_listT {p : Addr} {xs : List V} (ha : Ev ta σ H (.ref p)) (h : SqT K H p xs) : EvL (tCB (rListS K) (tCons ta tNil)) σ H xs := fun H1 e Q q =>
  ha H1 e _ fun H2 e2 => ⟨p, xs, rfl, Or.inr (ex_t (e.trans e2) h), fun l hl => q l _ (fresh_back e2 hl) (e2.trans (Ex.new hl)) upd_same⟩
/-- xs + ys -/
theorem el_cat {xs ys : List V} {a : Addr} (ha : Ev ta σ H (.ref a)) (hx : H a = some (.lst xs)) (hb : EvL tb σ H ys) (hz : xs.length + ys.length ≤ 100000) : EvL (tOp rCat ta tb) σ H (xs ++ ys) := fun H1 e Q q =>
  ha H1 e _ fun H2 e2 => hb H2 (e.trans e2) _ fun b H3 _ e3 h3 => ⟨a, b, xs, ys, rfl, rfl, ((e.trans e2).trans e3) a _ hx, h3, sz_of hz, fun p hp => q p _ (fresh_back (e2.trans e3) hp) ((e2.trans e3).trans (Ex.new hp)) upd_same⟩
theorem el_catN {xs ys : List V} (ha : EvL ta σ H xs) (hb : EvL tb σ H ys) (hz : xs.length + ys.length ≤ 100000) : EvL (tOp rCat ta tb) σ H (xs ++ ys) := fun H1 e Q q =>
  ha H1 e _ fun a H2 _ e2 h2 => hb H2 (e.trans e2) _ fun b H3 _ e3 h3 => ⟨a, b, xs, ys, rfl, rfl, e3 a _ h2, h3, sz_of hz, fun p hp => q p _ (fresh_back (e2.trans e3) hp) ((e2.trans e3).trans (Ex.new hp)) upd_same⟩
/-- abs, sum -/
def rAbs : List V → Hp → VK → Prop := fun xs H Q => ∃ i, xs = [.int i] ∧ Q (.int (if i < 0 then -i else i)) H
theorem ev_abs {i : Int} (ha : Ev ta σ H (.int i)) : Ev (tCB rAbs (tCons ta tNil)) σ H (.int (i.natAbs : Int)) := fun H1 e Q q =>
  ha H1 e _ fun H2 e2 => ⟨i, rfl, by
    have e3 : (if i < 0 then -i else i) = (i.natAbs : Int) := by split <;> omega
    rw [e3]
    exact q H2 e2⟩
theorem ev_sum {p : Addr} {ns : List Int} (ha : Ev ta σ H (.ref p)) (h : SqL K H p (ns.map V.int)) : Ev (tCB (rSum K) (tCons ta tNil)) σ H (.int ns.sum) := fun H1 e Q q =>
  ha H1 e _ fun H2 e2 => ⟨p, ns, rfl, ex_l (e.trans e2) h, q H2 e2⟩
theorem ev_sumN {ns : List Int} (ha : EvL ta σ H (ns.map V.int)) : Ev (tCB (rSum K) (tCons ta tNil)) σ H (.int ns.sum) := fun H1 e Q q =>
  ha H1 e _ fun p H2 _ e2 h2 => ⟨p, ns, rfl, sq_of h2, q H2 e2⟩
/-- isinstance(x, T) -/
theorem ev_isi {x : V} {n m : String} {b : Bool} {ta tb : TE} (ha : Ev ta σ H x) (hb : Ev tb σ H (.ty n)) (hx : ∀ H1, Ex H H1 → TyX K H1 x (.type m)) (hk : kitB m n = some b) :
    Ev (tCB (rIsi K) (tCons ta (tCons tb tNil))) σ H (.bl b) := fun H1 e Q q =>
  ha H1 e _ fun H2 e2 => hb H2 (e.trans e2) _ fun H3 e3 => ⟨x, .ty n, .type m, .type n, b, rfl, .ty n, hx H3 ((e.trans e2).trans e3), kit_ty hk, q H3 (e2.trans e3)⟩
theorem ev_all {p : Addr} {bs : List Bool} (ha : EvL ta σ H (bs.map V.bl)) : Ev (tCB (rAll K) (tCons ta tNil)) σ H (.bl (bs.all id)) := fun H1 e Q q =>
  ha H1 e _ fun p H2 _ e2 h2 => ⟨p, bs, rfl, sq_of h2, q H2 e2⟩
theorem ev_any {bs : List Bool} (ha : EvL ta σ H (bs.map V.bl)) : Ev (tCB (rAny K) (tCons ta tNil)) σ H (.bl (bs.any id)) := fun H1 e Q q =>
  ha H1 e _ fun p H2 _ e2 h2 => ⟨p, bs, rfl, sq_of h2, q H2 e2⟩
end

/-! ### what is walked -/
/-- J stands still while the heap only grows: n turns, Y tells what each gives -/
def Wk (J : It) (H : Hp) (n : Nat) (Y : Nat → Hp → V → Hp → Prop) : Prop := ∃ G, Walk J n G Y ∧ ∀ H', Ex H H' → G H'
def EvI (wi : TI) (σ : L2.St) (H : Hp) (n : Nat) (S : (Nat → Hp → V → Hp → Prop) → Hp → Prop) : Prop := ∀ H1, Ex H H1 → ∀ R : It → Hp → Prop, (∀ J Y H2, Ex H1 H2 → Wk J H2 n Y → S Y H2 → R J H2) → wi σ H1 R
section
variable {K : PySem.W.Frag} {σ : L2.St} {H H' : Hp} {ta tb te tx : TE} {t u : TT} {x y z v : V} {wi : TI} {g : TG} {n : Nat} {vs : List Nat}
theorem ei_list {a : Addr} {xs : List V} (h : Ev ta σ H (.ref a)) (hx : SqL K H a xs) : EvI (iList K ta) σ H xs.length (fun Y _ => Y = YAt xs) := fun H1 e R k =>
  h H1 e _ fun H2 e2 => ⟨a, rfl, ⟨xs, ex_l (e.trans e2) hx⟩, k _ _ H2 e2 ⟨_, walk_list, fun _ e3 => ex_l ((e.trans e2).trans e3) hx⟩ rfl⟩
theorem ei_new {xs : List V} (h : EvL ta σ H xs) : EvI (iList K ta) σ H xs.length (fun Y _ => Y = YAt xs) := fun H1 e R k =>
  h H1 e _ fun p H2 _ e2 hp => ⟨p, rfl, ⟨xs, sq_of hp⟩, k _ _ H2 e2 ⟨_, walk_list, fun _ e3 => sq_of (e3 p _ hp)⟩ rfl⟩
theorem ei_pairs {ps : List (Int × Int)} (h : EvX ta σ H (NP ps)) : EvI (iList K ta) σ H ps.length (fun Y H2 => ∃ xs, Y = YAt xs ∧ Prs H2 xs ps) := fun H1 e R k =>
  h H1 e _ fun v H2 e2 hv => by
    obtain ⟨p, xs, rfl, _, hp, hr⟩ := hv
    refine ⟨p, rfl, ⟨xs, sq_of hp⟩, k _ _ H2 e2 ⟨fun H => SqL K H p xs, ?_, fun _ e3 => sq_of (e3 p _ hp)⟩ ⟨xs, rfl, hr⟩⟩
    rw [← hr.len]
    exact walk_list
theorem ei_tup {a : Addr} {xs : List V} (h : Ev ta σ H (.ref a)) (hx : SqT K H a xs) : EvI (iTup K ta) σ H xs.length (fun Y _ => Y = YAt xs) := fun H1 e R k =>
  h H1 e _ fun H2 e2 => ⟨a, rfl, ⟨xs, ex_t (e.trans e2) hx⟩, k _ _ H2 e2 ⟨_, walk_tup, fun _ e3 => ex_t ((e.trans e2).trans e3) hx⟩ rfl⟩
theorem ei_enum {a : Addr} {xs : List V} {ta : TA} (h : EvA ta σ H [.ref a]) (hx : SqL K H a xs) : EvI (iEnum K ta) σ H xs.length (fun Y _ => Y = YPair (fun i => some (.int (i : Nat))) (fun i => xs[i]?)) := fun H1 e R k =>
  h H1 e _ fun H2 e2 => ⟨a, xs, rfl, ex_l (e.trans e2) hx, k _ _ H2 e2 ⟨_, walk_enum, fun _ e3 => ex_l ((e.trans e2).trans e3) hx⟩ rfl⟩
theorem ei_r1 {ta : TA} {m : Int} (h : EvA ta σ H [.int m]) (hm : 0 ≤ m ∧ m ≤ 100000) : EvI (iRng1 ta) σ H m.toNat (fun Y _ => Y = YFn fun i => .int (i : Nat)) := fun H1 e R k =>
  have e0 : (fun i : Nat => V.int ((0 : Int) + (i : Nat))) = fun i : Nat => V.int (i : Nat) := funext fun i => by rw [Int.zero_add]
  have w : Walk (Itr 0 m.toNat) m.toNat (fun _ => True) (YFn fun i => .int (i : Nat)) := e0 ▸ walk_range
  h H1 e _ fun H2 e2 => ⟨m, rfl, by omega, by omega, k _ _ H2 e2 ⟨_, w, fun _ _ => trivial⟩ rfl⟩
theorem ei_r2 {ta : TA} {lo m : Int} (h : EvA ta σ H [.int lo, .int m]) (hm : -100000 ≤ lo ∧ lo ≤ 100000 ∧ -100000 ≤ m ∧ m ≤ 100000) : EvI (iRng2 ta) σ H (m - lo).toNat (fun Y _ => Y = YFn fun i => .int (lo + (i : Nat))) := fun H1 e R k =>
  h H1 e _ fun H2 e2 => ⟨lo, m, rfl, ⟨by omega, by omega, by omega, by omega⟩, k _ _ H2 e2 ⟨_, walk_range, fun _ _ => trivial⟩ rfl⟩

/-! ### comprehensions -/
/-- Pv is a word of the list's place D, the turn, the items so far, the heap; it stands while all but D is as it was -/
theorem ex_lc {S : (Nat → Hp → V → Hp → Prop) → Hp → Prop} (Pv : Addr → Nat → List V → Hp → Prop) (h : EvI wi σ H n S) (hn : n ≤ 15000000)
    (mono : ∀ D i acc acc' H1 H2, H1 D = some (.lst acc') → (∀ a o, a ≠ D → H1 a = some o → H2 a = some o) → Pv D i acc H1 → Pv D i acc H2)
    (h0 : ∀ D Y H0 H1, Ex H H0 → S Y H0 → Ex H0 H1 → H0 D = none → Pv D 0 [] H1)
    (step : ∀ D Y H0 i x acc H1 H2, Ex H H0 → S Y H0 → Ex H0 H1 → i < n → H1 D = some (.lst acc) → Pv D i acc H1 → Y i H1 x H2 →
      g x (wipe σ vs) H2 fun σ2 H3 => wipe σ2 vs = wipe σ vs ∧ Ex H1 H3 ∧ ∃ b, EvT t σ2 H3 b ∧ (b = false → ∀ H4, Ex H3 H4 → Pv D (i + 1) acc H4) ∧ (b = true → ∀ H4, Ex H3 H4 → EvX te σ2 H4 (fun _ y H5 => Pv D (i + 1) (acc ++ [y]) H5)))
    (gm : ∀ x σ' H' (Q Q' : L2.St → Hp → Prop), (∀ σ2 H2, Q σ2 H2 → Q' σ2 H2) → g x σ' H' Q → g x σ' H' Q') :
    EvX (tLc wi g t te vs) σ H (fun H1 v H2 => ∃ p acc, v = .ref p ∧ H1 p = none ∧ H2 p = some (.lst acc) ∧ acc.length ≤ n ∧ Pv p n acc H2) := fun Hs es Q q => by
  refine h Hs es _ fun J Y H0 e0 hw hS => ?_
  obtain ⟨G, w, hG⟩ := hw
  intro D hD
  have eD : Ex H0 (upd H0 D (.lst [])) := Ex.new hD
  refine lc_it w (fun i H' => Ex H0 H' ∧ ∃ acc, H' D = some (.lst acc) ∧ acc.length ≤ i ∧ Pv D i acc H')
    ⟨eD, [], upd_same, Nat.zero_le _, h0 D Y H0 _ (es.trans e0) hS eD hD⟩ (fun i H' _ p => hG H' p.1) (fun i x H1 H2 hi p y => ?_) (fun H' p => ?_)
  · obtain ⟨e1, acc, ha, hl, hp⟩ := p
    refine gm _ _ _ _ _ (fun σ2 H3 k => ?_) (step D Y H0 i x acc H1 H2 (es.trans e0) hS e1 hi ha hp y)
    obtain ⟨k1, k2, b, k3, k4, k5⟩ := k
    refine ⟨k1, k3 H3 (Ex.refl _) _ fun H4 e4 => ?_⟩
    cases b with
    | false => exact ⟨(e1.trans k2).trans e4, acc, e4 _ _ (k2 _ _ ha), by omega, k4 rfl H4 e4⟩
    | true =>
      refine k5 rfl H4 e4 H4 (Ex.refl _) _ fun v H5 e5 hv => ?_
      have h5 : H5 D = some (.lst acc) := e5 _ _ (e4 _ _ (k2 _ _ ha))
      refine ⟨acc, h5, Nat.lt_of_lt_of_le (show acc.length < 16000000 by omega) (by decide), Ex.mut ((((e1.trans k2).trans e4).trans e5)) hD, acc ++ [v], upd_same, by rw [List.length_append, List.length_singleton]; omega, ?_⟩
      exact mono D (i + 1) (acc ++ [v]) acc H5 _ h5 (fun a o na ho => by rw [upd_ne na]; exact ho) hv
  · obtain ⟨e1, acc, ha, hl, hp⟩ := p
    exact q _ H' (e0.trans e1) ⟨D, acc, rfl, fresh_back e0 hD, ha, hl, hp⟩
theorem gm_name {j : Nat} : ∀ x σ' H' (Q Q' : L2.St → Hp → Prop), (∀ σ2 H2, Q σ2 H2 → Q' σ2 H2) → gName j x σ' H' Q → gName j x σ' H' Q' := fun _ _ _ _ _ f h => f _ _ h
theorem gm_two {i j : Nat} : ∀ x σ' H' (Q Q' : L2.St → Hp → Prop), (∀ σ2 H2, Q σ2 H2 → Q' σ2 H2) → gTup K 2 (gCons (gName i) (gCons (gName j) gNil)) x σ' H' Q → gTup K 2 (gCons (gName i) (gCons (gName j) gNil)) x σ' H' Q' := fun _ _ _ _ _ f h => by
  obtain ⟨a, xs, e1, e2, e3, v, r, e4, v2, r2, e5, e6, q⟩ := h
  exact ⟨a, xs, e1, e2, e3, v, r, e4, v2, r2, e5, e6, f _ _ q⟩
/-- the target a pair of names, the item a new pair -/
theorem g_two {i j : Nat} {T : Addr} {v w : V} {H1 H2 : Hp} {Q : L2.St → Hp → Prop} (h : H2 T = some (.tup [v, w])) (k : Q ((σ.set i (some v)).set j (some w)) H2) : gTup K 2 (gCons (gName i) (gCons (gName j) gNil)) (.ref T) σ H2 Q :=
  ⟨T, [v, w], rfl, st_of h, rfl, v, [w], rfl, w, [], rfl, rfl, k⟩
/-- exact items -/
theorem el_lcV {Y0 : Nat → Hp → V → Hp → Prop} (f : Nat → Bool) (vv : Nat → V) (h : EvI wi σ H n (fun Y _ => Y = Y0)) (hn : n ≤ 15000000)
    (step : ∀ i x H1 H2, Ex H H1 → i < n → Y0 i H1 x H2 → g x (wipe σ vs) H2 fun σ2 H3 => wipe σ2 vs = wipe σ vs ∧ Ex H1 H3 ∧ EvT t σ2 H3 (f i) ∧ (f i = true → Ev te σ2 H3 (vv i)))
    (gm : ∀ x σ' H' (Q Q' : L2.St → Hp → Prop), (∀ σ2 H2, Q σ2 H2 → Q' σ2 H2) → g x σ' H' Q → g x σ' H' Q') : EvL (tLc wi g t te vs) σ H (given n f vv) := by
  refine el_x fun H1 e1 Q q => ex_lc (fun _ i acc _ => acc = given i f vv) h hn (fun _ _ _ _ _ _ _ _ p => p) (fun _ _ _ _ _ _ _ _ => rfl) (fun D Y H0 i x acc H1 H2 e0 hS e1 hi ha hp y => ?_) gm H1 e1 Q fun v H2 e2 hv => ?_
  · subst hS hp
    refine gm _ _ _ _ _ (fun σ2 H3 k => ?_) (step i x H1 H2 (e0.trans e1) hi y)
    obtain ⟨k1, k2, k3, k4⟩ := k
    refine ⟨k1, k2, f i, k3, fun hf H4 e4 => (given_no hf).symm, fun hf H4 e4 => ?_⟩
    exact fun H5 e5 Q' q' => k4 hf H5 (e4.trans e5) Q' fun H6 e6 => q' _ H6 e6 (given_yes hf).symm
  · obtain ⟨p, acc, rfl, hp, h2, _, rfl⟩ := hv
    exact q _ H2 e2 ⟨p, rfl, hp, h2⟩
/-- items that are new pairs -/
theorem ep_lcP {Y0 : Nat → Hp → V → Hp → Prop} (f : Nat → Bool) (pp : Nat → Int × Int) (h : EvI wi σ H n (fun Y _ => Y = Y0)) (hn : n ≤ 15000000)
    (step : ∀ i x H1 H2, Ex H H1 → i < n → Y0 i H1 x H2 → g x (wipe σ vs) H2 fun σ2 H3 => wipe σ2 vs = wipe σ vs ∧ Ex H1 H3 ∧ EvT t σ2 H3 (f i) ∧ (f i = true → EvU te σ2 H3 [.int (pp i).1, .int (pp i).2]))
    (gm : ∀ x σ' H' (Q Q' : L2.St → Hp → Prop), (∀ σ2 H2, Q σ2 H2 → Q' σ2 H2) → g x σ' H' Q → g x σ' H' Q') : EvX (tLc wi g t te vs) σ H (NP (((List.range n).filter f).map pp)) := by
  refine fun H1 e1 Q q => ex_lc (fun _ i acc H' => Prs H' acc (((List.range i).filter f).map pp)) h hn (fun D i acc acc' H1 H2 hD hk p => ?_) (fun _ _ _ _ _ _ _ _ => .nil) (fun D Y H0 i x acc H1 H2 e0 hS e1 hi ha hp y => ?_) gm H1 e1 Q fun v H2 e2 hv => ?_
  · exact p.stay hD hk
  · subst hS
    refine gm _ _ _ _ _ (fun σ2 H3 k => ?_) (step i x H1 H2 (e0.trans e1) hi y)
    obtain ⟨k1, k2, k3, k4⟩ := k
    refine ⟨k1, k2, f i, k3, fun hf H4 e4 => ?_, fun hf H4 e4 => ?_⟩
    · rw [List.range_succ, List.filter_append, List.filter_cons, if_neg (by rw [hf]; decide), List.filter_nil, List.append_nil]
      exact hp.mono (k2.trans e4)
    · refine fun H5 e5 Q' q' => k4 hf H5 (e4.trans e5) Q' fun p H6 hp6 e6 h6 => q' _ H6 e6 ?_
      rw [List.range_succ, List.filter_append, List.filter_cons, if_pos hf, List.filter_nil, List.map_append]
      exact (hp.mono (((k2.trans e4).trans e5).trans e6)).append (.cons ⟨p, rfl, h6⟩ .nil)
  · obtain ⟨p, acc, rfl, hp, h2, _, hv⟩ := hv
    exact q _ H2 e2 ⟨p, acc, rfl, hp, h2, hv⟩

/-! ### for over enumerate -/
variable {D : Ends} {tu tz : TS}
theorem s_forEn {a : Addr} {xs : List V} {ta : TA} {j1 j2 : Nat} (h : EvA ta σ H [.ref a]) (hx : SqL K H a xs) (Pv : Nat → L2.St → Hp → Prop) (h0 : ∀ H1, Ex H H1 → Pv 0 σ H1) (hl : ∀ i σ' H', i ≤ xs.length → Pv i σ' H' → SqL K H' a xs)
    (hs : ∀ i x σ' H' H2, xs[i]? = some x → Pv i σ' H' → Ex H' H2 → tu { D with nx := Pv (i + 1), ct := Pv (i + 1), bk := D.nx } ((σ'.set j1 (some (.int (i : Nat)))).set j2 (some x)) H2) (hd : ∀ σ' H', Pv xs.length σ' H' → D.nx σ' H') :
    tFor (iEnum K ta) (gTup K 2 (gCons (gName j1) (gCons (gName j2) gNil))) tu D σ H :=
  h H (Ex.refl H) _ fun H1 e => ⟨a, xs, rfl, ex_l e hx, for_it walk_enum Pv (h0 H1 e) hl (fun i x σ' H' H2 hi p y => by
    obtain ⟨T, v, w, rfl, hT, rfl, e1, e2⟩ := y
    cases e1
    exact g_two (H1 := H') upd_same (hs i w σ' H' _ e2 p (Ex.new hT))) hd⟩
theorem q_forEn {a : Addr} {xs : List V} {ta : TA} {j1 j2 : Nat} (h : EvA ta σ H [.ref a]) (hx : SqL K H a xs) (Pv : Nat → L2.St → Hp → Prop) (h0 : ∀ H1, Ex H H1 → Pv 0 σ H1) (hl : ∀ i σ' H', i ≤ xs.length → Pv i σ' H' → SqL K H' a xs)
    (hs : ∀ i x σ' H' H2, xs[i]? = some x → Pv i σ' H' → Ex H' H2 → tu { D with nx := Pv (i + 1), ct := Pv (i + 1), bk := tz D } ((σ'.set j1 (some (.int (i : Nat)))).set j2 (some x)) H2) (hd : ∀ σ' H', Pv xs.length σ' H' → tz D σ' H') :
    tSeq (tFor (iEnum K ta) (gTup K 2 (gCons (gName j1) (gCons (gName j2) gNil))) tu) tz D σ H := s_forEn (D := { D with nx := tz D }) h hx Pv h0 hl hs hd
/-- assignments of a value told by a word -/
theorem s_asgX {R : Hp → V → Hp → Prop} {i : Nat} (h : EvX te σ H R) (k : ∀ v H1, Ex H H1 → R H v H1 → D.nx (σ.set i (some v)) H1) : tAsg te (gName i) D σ H := h H (Ex.refl H) _ fun v H1 e r => k v H1 e r
theorem q_asgX {R : Hp → V → Hp → Prop} {i : Nat} (h : EvX te σ H R) (k : ∀ v H1, Ex H H1 → R H v H1 → tz D (σ.set i (some v)) H1) : tSeq (tAsg te (gName i)) tz D σ H := s_asgX (D := { D with nx := tz D }) h k
theorem s_retX {R : Hp → V → Hp → Prop} (h : EvX te σ H R) (k : ∀ v H1, Ex H H1 → R H v H1 → D.rt v H1) : tRet te D σ H := h H (Ex.refl H) _ fun v H1 e r => k v H1 e r
/-- a, b = a pair -/
theorem q_asg2 {i j : Nat} {T : Addr} {v w : V} (h : Ev te σ H (.ref T)) (hT : SqT K H T [v, w]) (k : ∀ H1, Ex H H1 → tz D ((σ.set i (some v)).set j (some w)) H1) : tSeq (tAsg te (gTup K 2 (gCons (gName i) (gCons (gName j) gNil)))) tz D σ H :=
  h H (Ex.refl H) _ fun H1 e => ⟨T, [v, w], rfl, ex_t e hT, rfl, v, [w], rfl, w, [], rfl, rfl, k H1 e⟩
end

/-! ### data with a Lean type: == told by the values -/
class Dt (α : Type) [DecidableEq α] where
  toD : α → PyData
  lay : ∀ a, (toD a).canLay0 = true
  eqv : ∀ a b, PyData.eqv (toD a) (toD b) = decide (a = b)
  dep : Nat
  dep_le : ∀ a, (toD a).depth ≤ dep
theorem beq_dec {α : Type} [BEq α] [LawfulBEq α] [DecidableEq α] (a b : α) : (a == b) = decide (a = b) := by
  rw [Bool.eq_iff_iff, beq_iff_eq, decide_eq_true_eq]
instance : Dt Int where
  toD := .int
  lay _ := rfl
  eqv a b := by simp only [PyData.eqv]; exact beq_dec a b
  dep := 0
  dep_le _ := Nat.le_refl _
instance : Dt Bool where
  toD := .bool
  lay _ := rfl
  eqv a b := by simp only [PyData.eqv]; exact beq_dec a b
  dep := 0
  dep_le _ := Nat.le_refl _
section
variable {α β : Type} [DecidableEq α] [Dt α] [DecidableEq β] [Dt β]
theorem layAll_map : ∀ xs : List α, PyData.canLayAll0 (xs.map Dt.toD) = true
  | [] => rfl
  | x :: xs => by
    rw [List.map_cons, PyData.canLayAll0, Dt.lay x, layAll_map xs]
    rfl
theorem depAll_map : ∀ xs : List α, PyData.depthAll (xs.map Dt.toD) ≤ Dt.dep α
  | [] => Nat.zero_le _
  | x :: xs => by
    rw [List.map_cons, PyData.depthAll]
    exact Nat.max_le.mpr ⟨Dt.dep_le x, depAll_map xs⟩
theorem eqvAll_map' : ∀ xs ys : List α, PyData.eqvAll (xs.map Dt.toD) (ys.map Dt.toD) = decide (xs = ys)
  | [], [] => by simp only [List.map_nil, PyData.eqvAll, decide_true]
  | [], _ :: _ => by simp [PyData.eqvAll]
  | _ :: _, [] => by simp [PyData.eqvAll]
  | x :: xs, y :: ys => by
    rw [List.map_cons, List.map_cons, PyData.eqvAll, Dt.eqv x y, eqvAll_map' xs ys, ← Bool.decide_and]
    exact decide_eq_decide.mpr (by rw [List.cons.injEq])
instance : Dt (List α) where
  toD xs := .list (xs.map Dt.toD)
  lay xs := by simp only [PyData.canLay0]; exact layAll_map xs
  eqv xs ys := by simp only [PyData.eqv]; exact eqvAll_map' xs ys
  dep := Dt.dep α + 1
  dep_le xs := by simp only [PyData.depth]; exact Nat.succ_le_succ (depAll_map xs)
instance : Dt (α × β) where
  toD p := .tuple [Dt.toD p.1, Dt.toD p.2]
  lay p := by simp only [PyData.canLay0, PyData.canLayAll0, Dt.lay, Bool.and_self]
  eqv p q := by
    simp only [PyData.eqv, PyData.eqvAll]
    rw [Dt.eqv, Dt.eqv, Bool.and_true, ← Bool.decide_and]
    exact decide_eq_decide.mpr ⟨fun e => Prod.ext e.1 e.2, fun e => by rw [e]; exact ⟨rfl, rfl⟩⟩
  dep := max (Dt.dep α) (Dt.dep β) + 1
  dep_le p := by
    simp only [PyData.depth, PyData.depthAll]
    refine Nat.succ_le_succ (Nat.max_le.mpr ⟨Nat.le_trans (Dt.dep_le p.1) (Nat.le_max_left _ _), Nat.max_le.mpr ⟨Nat.le_trans (Dt.dep_le p.2) (Nat.le_max_right _ _), Nat.zero_le _⟩⟩)
theorem shaped_dt (h : Dt.dep α ≤ 64) (x : α) : SeqAt.shaped (Dt.toD x) = true := by
  unfold SeqAt.shaped
  rw [Dt.lay x, Bool.true_and]
  exact decide_eq_true (Nat.le_trans (Dt.dep_le x) h)
/-- v holds x in H -/
def At (K : PySem.W.Frag) (H : Hp) (v : V) (x : α) : Prop := Dp K H v (Dt.toD x)
variable {K : PySem.W.Frag} {H H' : Hp} {σ : L2.St} {te ta tb : TE}
mutual
theorem dp_mono (e : Ex H H') : ∀ (d : PyData) (v : V), Dp K H v d → Dp K H' v d
  | _, _, .non => .non
  | _, _, .bl b => .bl b
  | _, _, .int i => .int i
  | _, _, .str x => .str x
  | _, _, .lst h r => .lst (ex_l e h) (dpAll_mono e _ _ r)
  | _, _, .tup h r => .tup (ex_t e h) (dpAll_mono e _ _ r)
theorem dpAll_mono (e : Ex H H') : ∀ (ds : List PyData) (vs : List V), DpAll K H vs ds → DpAll K H' vs ds
  | _, _, .nil => .nil
  | _, _, .cons h r => .cons (dp_mono e _ _ h) (dpAll_mono e _ _ r)
end
theorem At.mono {v : V} {x : α} (e : Ex H H') (h : At K H v x) : At K H' v x := dp_mono e _ _ h
theorem at_int (i : Int) : At K H (.int i) i := .int i
theorem at_bl (b : Bool) : At K H (.bl b) b := .bl b
theorem dp_ints : ∀ ns : List Int, DpAll K H (ns.map V.int) (ns.map PyData.int)
  | [] => .nil
  | n :: ns => .cons (.int n) (dp_ints ns)
theorem at_ints {p : Addr} {ns : List Int} (h : SqL K H p (ns.map V.int)) : At K H (.ref p) ns := .lst h (dp_ints ns)
theorem at_intsH {p : Addr} {ns : List Int} (h : H p = some (.lst (ns.map V.int))) : At K H (.ref p) ns := at_ints (sq_of h)
theorem at_pair {p : Addr} {i j : Int} (h : H p = some (.tup [.int i, .int j])) : At K H (.ref p) (i, j) := .tup (st_of h) (.cons (.int i) (.cons (.int j) .nil))
theorem dp_prs : ∀ {vs : List V} {ps : List (Int × Int)}, Prs H vs ps → DpAll K H vs (ps.map Dt.toD)
  | _, _, .nil => .nil
  | _, _, .cons ⟨t, e, h⟩ r => by
    subst e
    exact .cons (at_pair h) (dp_prs r)
theorem at_prs {p : Addr} {vs : List V} {ps : List (Int × Int)} (h : H p = some (.lst vs)) (r : Prs H vs ps) : At K H (.ref p) ps := .lst (sq_of h) (dp_prs r)
/-- x evaluates to a thing that holds a datum -/
def EvD (K : PySem.W.Frag) (te : TE) (σ : L2.St) (H : Hp) (x : α) : Prop := EvX te σ H (fun _ v H2 => At K H2 v x)
theorem ed_v {v : V} {x : α} (h : Ev te σ H v) (a : At K H v x) : EvD K te σ H x := fun H1 e Q q => h H1 e Q fun H2 e2 => q v H2 e2 (a.mono (e.trans e2))
theorem ed_int {i : Int} (h : Ev te σ H (.int i)) : EvD K te σ H i := ed_v h (at_int i)
theorem ed_bl {b : Bool} (h : Ev te σ H (.bl b)) : EvD K te σ H b := ed_v h (at_bl b)
theorem ed_l {ns : List Int} (h : EvL te σ H (ns.map V.int)) : EvD K te σ H ns := fun H1 e Q q => h H1 e Q fun p H2 _ e2 hp => q _ H2 e2 (at_intsH hp)
theorem ed_p {ps : List (Int × Int)} (h : EvX te σ H (NP ps)) : EvD K te σ H ps := fun H1 e Q q => h H1 e Q fun v H2 e2 hv => by
  obtain ⟨p, vs, rfl, _, hp, hr⟩ := hv
  exact q _ H2 e2 (at_prs hp hr)
theorem ed_u {i j : Int} (h : EvU te σ H [.int i, .int j]) : EvD K te σ H (i, j) := fun H1 e Q q => h H1 e Q fun p H2 _ e2 hp => q _ H2 e2 (at_pair hp)
theorem ev_eqD {x y : α} (ha : EvD K ta σ H x) (hb : EvD K tb σ H y) (hd : Dt.dep α ≤ 64 := by decide) : Ev (tOp (rEqD K) ta tb) σ H (.bl (decide (x = y))) := fun H1 e Q q =>
  ha H1 e _ fun v H2 e2 a => hb H2 (e.trans e2) _ fun w H3 e3 b => ⟨_, _, a.mono e3, b, shaped_dt hd x, shaped_dt hd y, by rw [Dt.eqv]; exact q H3 (e2.trans e3)⟩
theorem ev_neD {x y : α} (ha : EvD K ta σ H x) (hb : EvD K tb σ H y) (hd : Dt.dep α ≤ 64 := by decide) : Ev (tOp (rNeD K) ta tb) σ H (.bl (!decide (x = y))) := fun H1 e Q q =>
  ha H1 e _ fun v H2 e2 a => hb H2 (e.trans e2) _ fun w H3 e3 b => ⟨_, _, a.mono e3, b, shaped_dt hd x, shaped_dt hd y, by rw [Dt.eqv]; exact q H3 (e2.trans e3)⟩
end
/-! ### chains -/
section
variable {K : PySem.W.Frag} {σ : L2.St} {H H' : Hp} {ta tb tc td : TE} {x y z w : V} {r r' r'' : R2}
theorem ev_chain {a b : Bool} (ha : Ev ta σ H x) (hb : Ev tb σ H y) (hc : Ev tc σ H z) (h1 : RV r x y H (.bl a)) (h2 : RV r' y z H (.bl b)) : Ev (tChain r r' ta tb tc) σ H (.bl (a && b)) := fun H1 e Q q =>
  ha H1 e _ fun H2 e2 => hb H2 (e.trans e2) _ fun H3 e3 => h1 H3 ((e.trans e2).trans e3) _ fun H4 e4 => ⟨a, rfl, by
    cases a with
    | false => exact q H4 ((e2.trans e3).trans e4)
    | true => exact hc H4 (((e.trans e2).trans e3).trans e4) _ fun H5 e5 => h2 H5 ((((e.trans e2).trans e3).trans e4).trans e5) _ fun H6 e6 => q H6 ((((e2.trans e3).trans e4).trans e5).trans e6)⟩
theorem ev_chain3 {a b c : Bool} (ha : Ev ta σ H x) (hb : Ev tb σ H y) (hc : Ev tc σ H z) (hd : Ev td σ H w) (h1 : RV r x y H (.bl a)) (h2 : RV r' y z H (.bl b)) (h3 : RV r'' z w H (.bl c)) : Ev (tChain3 r r' r'' ta tb tc td) σ H (.bl (a && (b && c))) := fun H1 e Q q =>
  ha H1 e _ fun H2 e2 => hb H2 (e.trans e2) _ fun H3 e3 => h1 H3 ((e.trans e2).trans e3) _ fun H4 e4 => ⟨a, rfl, by
    cases a with
    | false => exact q H4 ((e2.trans e3).trans e4)
    | true =>
      refine hc H4 (((e.trans e2).trans e3).trans e4) _ fun H5 e5 => h2 H5 ((((e.trans e2).trans e3).trans e4).trans e5) _ fun H6 e6 => ⟨b, rfl, ?_⟩
      have e7 : Ex H1 H6 := (((e2.trans e3).trans e4).trans e5).trans e6
      cases b with
      | false => exact q H6 e7
      | true => exact hd H6 (e.trans e7) _ fun H8 e8 => h3 H8 ((e.trans e7).trans e8) _ fun H9 e9 => q H9 ((e7.trans e8).trans e9)⟩
end

/-! ### a def with its promise; the names of the built-ins -/
structure Ok (P : Program) (w : World) (K : PySem.W.Frag) (mg : Str → Option Value) (base : Heap) (CX : CXT) (k : Nat) (x : Str) (st : Stmt) (ps : List Str) (sp : Sp) (f : Addr) (fd : FuncData) : Prop where
  D : Df K mg x st ps f fd
  G : FnOk P w K mg base CX k f fd ps sp
structure Blt (mg : Str → Option Value) : Prop where
  isinstance : mg "isinstance" = none
  int : mg "int" = none
  bool : mg "bool" = none
  list : mg "list" = none
  tuple : mg "tuple" = none
  len : mg "len" = none
  all : mg "all" = none
  any : mg "any" = none
  abs : mg "abs" = none
  sum : mg "sum" = none
  max : mg "max" = none
  min : mg "min" = none
  sorted : mg "sorted" = none
  range : mg "range" = none
  enumerate : mg "enumerate" = none

section
variable {K : PySem.W.Frag} {σ : L2.St} {H H' : Hp}
theorem ev_is' {r : R2} {x y z w : V} (h : RV r x y H z) (e : z = w) : RV r x y H w := by
  rw [← e]
  exact h
theorem el_is {te : TE} {xs ys : List V} (h : EvL te σ H xs) (e : xs = ys) : EvL te σ H ys := by
  rw [← e]
  exact h
theorem et_yes : EvT tYes σ H true := fun H1 _ _ q => q H1 (Ex.refl H1)
theorem given_bl {n : Nat} {b : Nat → Bool} : given n (fun _ => true) (fun i => .bl (b i)) = ((List.range n).map b).map V.bl := by
  unfold given
  rw [List.filter_eq_self.mpr (fun _ _ => rfl), List.map_map]
  rfl
theorem all_range {n : Nat} {b : Nat → Bool} (h : ∀ i, i < n → b i = true) : ((List.range n).map b).all id = true := by
  rw [List.all_map, List.all_eq_true]
  exact fun i hi => h i (List.mem_range.mp hi)
theorem any_range {n : Nat} {b : Nat → Bool} (h : ∀ i, i < n → b i = false) : ((List.range n).map b).any id = false := by
  rw [List.any_map, List.any_eq_false]
  exact fun i hi => by simp [h i (List.mem_range.mp hi)]
theorem int_at {ns : List Int} {i : Nat} {x : V} (h : (ns.map V.int)[i]? = some x) : ∃ n, ns[i]? = some n ∧ x = .int n := by
  rw [List.getElem?_map] at h
  cases e : ns[i]? with
  | none => rw [e] at h; cases h
  | some n =>
    rw [e] at h
    cases h
    exact ⟨n, rfl, rfl⟩
theorem at_int_i {ns : List Int} {i : Int} (h0 : 0 ≤ i) (h1 : i < ns.length) : atI (ns.map V.int) i = some (.int (ns.getD i.toNat 0)) := by
  refine at_of (j := i.toNat) (by omega) ?_
  rw [List.getElem?_map, List.getElem?_eq_getElem (by omega)]
  rw [List.getD_eq_getElem?_getD, List.getElem?_eq_getElem (by omega)]
  rfl
end
/-- a board: one to six numbers from 0 to a million -/
structure Board (ns : List Int) : Prop where
  one : 1 ≤ ns.length
  six : ns.length ≤ 6
  num : ∀ x ∈ ns, 0 ≤ x ∧ x ≤ 1000000

/-! ### rules with the written part named (a block's reading may not speak of the block) -/
section
variable {X : Cx} {K : PySem.W.Frag}
def rTup (K : PySem.W.Frag) : List V → Hp → VK → Prop := fun xs H Q => ∃ p ys, xs = [.ref p] ∧ ((SqL K H p ys ∧ ∀ l, H l = none → Q (.ref l) (upd H l (.tup ys))) ∨ (SqT K H p ys ∧ Q (.ref p) H))
theorem kIn (h : X.K = K) : OpR X (compareOp .In) (rIn K false) := h ▸ op_in_seq
theorem kNotIn (h : X.K = K) : OpR X (compareOp .NotIn) (rIn K true) := h ▸ op_notIn_seq
theorem kEqD (h : X.K = K) (hu : X.A.units + 64 < cLine) : OpR X (compareOp .Eq) (rEqD K) := h ▸ op_eqD hu
theorem kNeD (h : X.K = K) (hu : X.A.units + 64 < cLine) : OpR X (compareOp .NotEq) (rNeD K) := h ▸ op_neD hu
theorem kLen (h : X.K = K) : CallR X (.builtin "len") (rLenS K) := h ▸ call_len_seq
theorem kList (h : X.K = K) : CallR X (.type "list") (rListS K) := h ▸ call_list_of
theorem kTup' (h : X.K = K) : CallR X (.type "tuple") (rTup K) := h ▸ call_tuple_of
theorem kIxL (h : X.K = K) : IxR X (rIxL K) := h ▸ ix_list
theorem kIxT (h : X.K = K) : IxR X (rIxT K) := h ▸ ix_tup
theorem kSl (h : X.K = K) : SlR X (rSlL K) := h ▸ sl_list
theorem kSum (h : X.K = K) (hc : X.calm = true) : CallR X (.builtin "sum") (rSum K) := h ▸ cr_sum hc
theorem kMax (h : X.K = K) (hc : X.calm = true) : CallR X (.builtin "max") (rMax K) := h ▸ cr_max hc
theorem kMin (h : X.K = K) (hc : X.calm = true) : CallR X (.builtin "min") (rMin K) := h ▸ cr_min hc
theorem kAny (h : X.K = K) (hc : X.calm = true) : CallR X (.builtin "any") (rAny K) := h ▸ cr_any hc
theorem kAll (h : X.K = K) (hc : X.calm = true) : CallR X (.builtin "all") (rAll K) := h ▸ cr_all hc
theorem kSortI (h : X.K = K) : CallR X (.builtin "sorted") (rSortedI K) := h ▸ cr_sortedI
theorem kSortP (h : X.K = K) : CallR X (.builtin "sorted") (rSortedPO K) := h ▸ cr_sortedPO
theorem kIsi (h : X.K = K) : CallR X (.builtin "isinstance") (rIsi K) := h ▸ call_isi
theorem kIsiT (h : X.K = K) : CallR X (.builtin "isinstance") (rIsiT K) := h ▸ call_isiT
theorem kgTup {pos : Pos} {es : List Expr} {k : Nat} {t : TGs} {n : Nat} (hK : X.K = K) (hc : X.calm = true) (h : PGs X es t) (hn : (assignEach es X.env).length = n := by rfl) (hst : (assignEach es X.env).findIdx? (·.1) = none := by rfl) : PG X (.Tuple es k pos) (gTup K n t) := hK ▸ pg_tup hc h hn hst
theorem kAbs : CallR X (.builtin "abs") rAbs := call_abs
end

theorem nd_f {p : Prop} [Decidable p] (h : (!decide p) = false) : p := by
  by_cases hp : p
  · exact hp
  · rw [decide_eq_false hp] at h
    cases h
theorem nd_t {p : Prop} [Decidable p] (h : (!decide p) = true) : ¬ p := fun hp => by
  rw [decide_eq_true hp] at h
  cases h
/-! ### sizes of whole numbers -/
theorem sz_add {x y : Int} {a b : Nat} (hx : x.natAbs < 2 ^ a) (hy : y.natAbs < 2 ^ b) : (x + y).natAbs < 2 ^ (a + b + 1) := by
  have h1 : 2 ^ a ≤ 2 ^ (a + b) := Nat.pow_le_pow_right (by decide) (by omega)
  have h2 : 2 ^ b ≤ 2 ^ (a + b) := Nat.pow_le_pow_right (by decide) (by omega)
  have h3 : 2 ^ (a + b + 1) = 2 ^ (a + b) * 2 := Nat.pow_succ _ _
  have h4 := Int.natAbs_add_le x y
  omega
theorem sz_mul {x y : Int} {a b : Nat} (hx : x.natAbs < 2 ^ a) (hy : y.natAbs < 2 ^ b) : (x * y).natAbs < 2 ^ (a + b) := wide_lt hx hy
theorem sz_bits {x : Int} : x.natAbs < 2 ^ (Builtin.Int.intBits x) := by
  unfold Builtin.Int.intBits
  by_cases h : x = 0
  · subst h
    decide
  · have h2 : (x == 0) = false := by simp [h]
    rw [h2]
    exact Nat.lt_log2_self
theorem mulOk {x y : Int} {a b : Nat} (hx : x.natAbs < 2 ^ a) (hy : y.natAbs < 2 ^ b) (h : a + b ≤ 100000000) : IntMulOk x y := by
  have g : ∀ {z : Int} {c : Nat}, z.natAbs < 2 ^ c → Builtin.Int.intBits z ≤ c + 1 := fun {z c} hz => by
    have l : z.natAbs.log2 < c + 1 := PySem.Flt.log2_lt_of (by omega) (Nat.lt_of_lt_of_le hz (Nat.pow_le_pow_right (by decide) (by omega)))
    unfold Builtin.Int.intBits
    split <;> omega
  have h1 := g hx
  have h2 := g hy
  have e : bitsLine = 134217728 := by decide
  unfold IntMulOk
  intro z
  rw [Bool.and_eq_true] at z
  have z2 := z.2
  unfold Builtin.Int.intTooBig at z2
  have z3 := of_decide_eq_true z2
  rw [e] at z3
  omega
theorem divOk {i j : Int} (h : 0 < j) (h2 : j < 1073741824) : CDivW i j := ⟨h, Nat.lt_trans (PySem.Flt.log2_lt_of (k := 30) (by decide) (by omega)) (by decide)⟩
section
variable {K : PySem.W.Frag} {σ : L2.St} {H H' : Hp} {ta tb te : TE} {t : TT} {x y z v w : V} {D : Ends} {tz : TS}
theorem el_if {xs : List V} {b : Bool} (h : EvT t σ H b) (h1 : b = true → EvL ta σ H xs) (h2 : b = false → EvL tb σ H xs) : EvL (tIf t ta tb) σ H xs := fun H1 e Q q => h H1 e _ fun H2 e2 => by
  cases b with
  | true =>
    show ta σ H2 Q
    exact h1 rfl H2 (e.trans e2) Q fun p H3 hp e3 h3 => q p H3 (fresh_back e2 hp) (e2.trans e3) h3
  | false =>
    show tb σ H2 Q
    exact h2 rfl H2 (e.trans e2) Q fun p H3 hp e3 h3 => q p H3 (fresh_back e2 hp) (e2.trans e3) h3
/-- an item of a tuple written there -/
theorem ev_ixNT {xs : List V} {i : Int} (ha : EvU ta σ H xs) (hb : Ev tb σ H (.int i)) (hi : atI xs i = some v) : Ev (tOp (rIxT K) ta tb) σ H v := fun H1 e Q q =>
  ha H1 e _ fun p H2 _ e2 h2 => hb H2 (e.trans e2) _ fun H3 e3 => ⟨p, xs, i, v, rfl, rfl, st_of (e3 p _ h2), hi, q H3 (e2.trans e3)⟩
/-- a, b = e1, e2 -/
theorem q_parVL {i j : Nat} {ys : List V} (h1 : Ev ta σ H v) (h2 : EvL tb σ H ys) (k : ∀ p H1, H p = none → Ex H H1 → H1 p = some (.lst ys) → tz D ((σ.set i (some v)).set j (some (.ref p))) H1) : tSeq (tPar i j (tCons ta (tCons tb tNil))) tz D σ H :=
  h1 H (Ex.refl H) _ fun H1 e1 => h2 H1 e1 _ fun p H2 hp e2 hp2 => ⟨v, .ref p, rfl, k p H2 (fresh_back e1 hp) (e1.trans e2) hp2⟩
theorem cut_all {xs : List V} {n : Nat} (h : xs.length ≤ n) : cutV xs none (some (n : Int)) = xs := by
  unfold cutV
  rw [HT.sIx_none, HT.sIx_nat, Nat.min_eq_right h, List.drop_zero, Nat.sub_zero, List.take_length]
end

/-! ### sorted lists are one -/
theorem sorted_one {α : Type} {r : α → α → Prop} (anti : ∀ a b, r a b → r b a → a = b) : ∀ {l m : List α}, l.Perm m → l.Pairwise r → m.Pairwise r → l = m
  | [], m, h, _, _ => (List.nil_perm.mp h).symm
  | a :: l, [], h, _, _ => by
    have := h.length_eq
    simp at this
  | a :: l, b :: m, h, h1, h2 => by
    have e : a = b := by
      rcases List.mem_cons.mp (h.mem_iff.mp List.mem_cons_self) with e | ha
      · exact e
      · rcases List.mem_cons.mp (h.mem_iff.mpr List.mem_cons_self) with e | hb
        · exact e.symm
        · exact anti a b ((List.pairwise_cons.mp h1).1 b hb) ((List.pairwise_cons.mp h2).1 a ha)
    subst e
    rw [sorted_one anti h.cons_inv (List.pairwise_cons.mp h1).2 (List.pairwise_cons.mp h2).2]
def insI (x : Int) : List Int → List Int
  | [] => [x]
  | y :: l => if x ≤ y then x :: y :: l else y :: insI x l
def srt : List Int → List Int
  | [] => []
  | x :: l => insI x (srt l)
theorem insI_perm (x : Int) : ∀ l : List Int, (insI x l).Perm (x :: l)
  | [] => List.Perm.refl _
  | y :: l => by
    unfold insI
    split
    · exact List.Perm.refl _
    · exact ((insI_perm x l).cons y).trans (List.Perm.swap x y l)
theorem srt_perm : ∀ ns : List Int, (srt ns).Perm ns
  | [] => List.Perm.refl _
  | x :: l => (insI_perm x (srt l)).trans ((srt_perm l).cons x)
theorem insI_sorted (x : Int) : ∀ {l : List Int}, l.Pairwise (· ≤ ·) → (insI x l).Pairwise (· ≤ ·)
  | [], _ => List.pairwise_singleton _ _
  | y :: l, h => by
    obtain ⟨h1, h2⟩ := List.pairwise_cons.mp h
    unfold insI
    split
    · rename_i hx
      refine List.pairwise_cons.mpr ⟨fun z hz => ?_, h⟩
      rcases List.mem_cons.mp hz with e | hz
      · rw [e]; exact hx
      · have := h1 z hz
        omega
    · rename_i hx
      refine List.pairwise_cons.mpr ⟨fun z hz => ?_, insI_sorted x h2⟩
      rcases List.mem_cons.mp ((insI_perm x l).mem_iff.mp hz) with e | hz
      · rw [e]; omega
      · exact h1 z hz
theorem srt_sorted : ∀ ns : List Int, (srt ns).Pairwise (· ≤ ·)
  | [] => List.Pairwise.nil
  | x :: l => insI_sorted x (srt_sorted l)
theorem srt_one {ns ms : List Int} (h : ms.Perm ns) (hs : ms.Pairwise (· ≤ ·)) : ms = srt ns := sorted_one (fun a b h1 h2 => by omega) (h.trans (srt_perm ns).symm) hs (srt_sorted ns)
theorem srt_congr {ns ms : List Int} (h : ms.Perm ns) : srt ms = srt ns := srt_one ((srt_perm ms).trans h) (srt_sorted ms)
theorem srt_len (ns : List Int) : (srt ns).length = ns.length := (srt_perm ns).length_eq
def lexLe (p q : Int × Int) : Prop := p.1 < q.1 ∨ (p.1 = q.1 ∧ p.2 ≤ q.2)
instance (p q : Int × Int) : Decidable (lexLe p q) := inferInstanceAs (Decidable (_ ∨ _))
theorem lexLe_anti : ∀ a b : Int × Int, lexLe a b → lexLe b a → a = b := fun a b h1 h2 => by
  unfold lexLe at h1 h2
  exact Prod.ext (by omega) (by omega)
/-! ### calls whose answer is told by a word -/
def RetX (R : Hp → V → Hp → Prop) (H : Hp) (Q : VK) : Prop := ∀ v H2, Ex H H2 → R H v H2 → Q v H2
/-- R looks at the start only for what was free -/
def Back (R : Hp → V → Hp → Prop) : Prop := ∀ H1 H2 v H3, Ex H1 H2 → R H2 v H3 → R H1 v H3
theorem back_L {xs : List V} : Back (NL xs) := fun H1 H2 v H3 e ⟨p, h1, h2, h3⟩ => ⟨p, h1, fresh_back e h2, h3⟩
theorem back_P {ps : List (Int × Int)} : Back (NP ps) := fun H1 H2 v H3 e ⟨p, vs, h1, h2, h3⟩ => ⟨p, vs, h1, fresh_back e h2, h3⟩
def SpX (sp : Sp) (vs : List V) (H : Hp) (R : Hp → V → Hp → Prop) : Prop := ∀ H1, Ex H H1 → ∀ Q : VK, RetX R H1 Q → ∀ E : XK, sp vs H1 Q E
section
variable {K : PySem.W.Frag} {σ : L2.St} {H H' : Hp} {ta tb te : TE} {t : TT} {x y z v w : V} {D : Ends} {tz : TS} {R : Hp → V → Hp → Prop}
theorem ex_call {sp : Sp} {dvs vs : List V} {E : XK} {ta : TA} (hR : Back R) (h : EvA ta σ H vs) (hs : SpX sp (vs ++ dvs) H R) : EvX (tCall sp dvs E ta) σ H R := fun H1 e Q q =>
  h H1 e _ fun H2 e2 => hs H2 (e.trans e2) Q (fun v H3 e3 r => q v H3 (e2.trans e3) (hR _ _ _ _ e2 r)) E
/-- xs.extend(a new list of pairs) -/
theorem q_extP {l : Addr} {vs : List V} {ps qs : List (Int × Int)} (hl : H l = some (.lst vs)) (hp : Prs H vs ps) (ha : Ev ta σ H (.ref l)) (h : EvX te σ H (NP qs)) (hz : ps.length + qs.length ≤ 100000)
    (k : ∀ H1 ws, Ex H H1 → Prs (upd H1 l (.lst ws)) ws (ps ++ qs) → tz D σ (upd H1 l (.lst ws))) : tSeq (tDrop (tBM K "list" rExtend ta (tCons te tNil))) tz D σ H := ha H (Ex.refl H) _ fun H1 e1 =>
  ⟨Or.inl ⟨rfl, vs, sq_of (e1 l _ hl)⟩, h H1 e1 _ fun v H2 e2 hv => by
    obtain ⟨p, ws, rfl, hp0, hp2, hw⟩ := hv
    refine ⟨l, p, vs, ws, rfl, rfl, e2 l _ (e1 l _ hl), hp2, sz_of (by rw [hp.len, hw.len]; exact hz), k H2 (vs ++ ws) (e1.trans e2) ?_⟩
    exact ((hp.mono (e1.trans e2)).append hw).stay (e2 l _ (e1 l _ hl)) fun a o na ho => by rw [upd_ne na]; exact ho⟩
theorem s_extP {l : Addr} {vs : List V} {ps qs : List (Int × Int)} (hl : H l = some (.lst vs)) (hp : Prs H vs ps) (ha : Ev ta σ H (.ref l)) (h : EvX te σ H (NP qs)) (hz : ps.length + qs.length ≤ 100000)
    (k : ∀ H1 ws, Ex H H1 → Prs (upd H1 l (.lst ws)) ws (ps ++ qs) → D.nx σ (upd H1 l (.lst ws))) : tDrop (tBM K "list" rExtend ta (tCons te tNil)) D σ H := q_extP (D := D) (tz := tNext) hl hp ha h hz k
/-- sorted of whole numbers -/
theorem el_sortI {a : Addr} {ns : List Int} (ha : Ev ta σ H (.ref a)) (hx : SqL K H a (ns.map V.int)) : EvL (tCB (rSortedI K) (tCons ta tNil)) σ H ((srt ns).map V.int) := fun H1 e Q q =>
  ha H1 e _ fun H2 e2 => ⟨a, ns, rfl, ex_l (e.trans e2) hx, fun ms p h1 h2 hp => by
    rw [srt_one h1 h2]
    exact q p _ (fresh_back e2 hp) (e2.trans (Ex.new hp)) upd_same⟩
theorem el_sortIN {ns : List Int} (ha : EvL ta σ H (ns.map V.int)) : EvL (tCB (rSortedI K) (tCons ta tNil)) σ H ((srt ns).map V.int) := fun H1 e Q q =>
  ha H1 e _ fun a H2 _ e2 hx => ⟨a, ns, rfl, sq_of hx, fun ms p h1 h2 hp => by
    rw [srt_one h1 h2]
    exact q p _ (fresh_back e2 hp) (e2.trans (Ex.new hp)) upd_same⟩
/-- sorted of pairs -/
def prOf (H : Hp) : V → Int × Int
  | .ref t => match H t with
    | some (.tup [.int i, .int j]) => (i, j)
    | _ => (0, 0)
  | _ => (0, 0)
theorem prOf_at {t : Addr} {i j : Int} (h : H t = some (.tup [.int i, .int j])) : prOf H (.ref t) = (i, j) := by
  simp only [prOf, h]
theorem prs_map : ∀ {vs : List V} {ps : List (Int × Int)}, Prs H vs ps → vs.map (prOf H) = ps ∧ ∀ v ∈ vs, ∃ t, v = .ref t ∧ H t = some (.tup [.int (prOf H v).1, .int (prOf H v).2])
  | _, _, .nil => ⟨rfl, fun v hv => by cases hv⟩
  | _, _, .cons ⟨t, e, h⟩ r => by
    subst e
    obtain ⟨h1, h2⟩ := prs_map r
    refine ⟨by rw [List.map_cons, h1, prOf_at h], fun v hv => ?_⟩
    rcases List.mem_cons.mp hv with e | hv
    · subst e
      exact ⟨t, rfl, by rw [prOf_at h]; exact h⟩
    · exact h2 v hv
theorem prs_of : ∀ {vs : List V}, (∀ v ∈ vs, ∃ t, v = .ref t ∧ H t = some (.tup [.int (prOf H v).1, .int (prOf H v).2])) → Prs H vs (vs.map (prOf H))
  | [], _ => .nil
  | v :: vs, h => .cons (h v List.mem_cons_self) (prs_of fun u hu => h u (List.mem_cons_of_mem _ hu))
theorem ex_sortP {a : Addr} {vs : List V} {ps qs : List (Int × Int)} (ha : Ev ta σ H (.ref a)) (hx : H a = some (.lst vs)) (hr : Prs H vs ps) (hq : qs.Perm ps) (hs : qs.Pairwise lexLe) : EvX (tCB (rSortedPO K) (tCons ta tNil)) σ H (NP qs) := fun H1 e Q q =>
  ha H1 e _ fun H2 e2 => by
    have hr2 := hr.mono (e.trans e2)
    obtain ⟨m1, m2⟩ := prs_map hr2
    refine ⟨a, vs, prOf H2, rfl, sq_of ((e.trans e2) _ _ hx), m2, fun ys p h1 h2 hp => ?_⟩
    have hy : ∀ v ∈ ys, ∃ t, v = .ref t ∧ H2 t = some (.tup [.int (prOf H2 v).1, .int (prOf H2 v).2]) := fun v hv => m2 v (h2.perm.mem_iff.mp hv)
    have ey : ys.map (prOf H2) = qs := by
      refine sorted_one lexLe_anti ((h2.perm.map (prOf H2)).trans (by rw [m1]; exact hq.symm)) (List.pairwise_map.mpr (h1.imp fun {x y} h => ?_)) hs
      have := SrtO.lexB_no.mp h
      unfold lexLe
      omega
    refine q (.ref p) _ (e2.trans (Ex.new hp)) ⟨p, ys, rfl, fresh_back e2 hp, upd_same, ?_⟩
    rw [← ey]
    exact (prs_of hy).mono (Ex.new hp)
end

/-- some whole number -/
def AnyI : Hp → V → Hp → Prop := fun _ v _ => ∃ z : Int, v = .int z
theorem back_I : Back AnyI := fun _ _ _ _ _ h => h
section
variable {σ : L2.St} {H : Hp} {ta tb : TE} {y : V} {r : R2}
theorem ex_opI {R : Hp → V → Hp → Prop} (hR : Back R) (ha : EvX ta σ H AnyI) (hb : Ev tb σ H y) (hr : ∀ z : Int, ∃ u : V, RV r (.int z) y H u ∧ ∀ H1 H2, R H1 u H2) : EvX (tOp r ta tb) σ H R := fun H1 e Q q =>
  ha H1 e _ fun v H2 e2 ⟨z, hz⟩ => hb H2 (e.trans e2) _ fun H3 e3 => by
    subst hz
    obtain ⟨u, h1, h2⟩ := hr z
    exact h1 H3 ((e.trans e2).trans e3) Q fun H4 e4 => q u H4 ((e2.trans e3).trans e4) (h2 _ _)
end

/-! ### arguments told by a word -/
def EvAX (ta : TA) (σ : L2.St) (H : Hp) (R : List V → Hp → Prop) : Prop := ∀ H1, Ex H H1 → ∀ Q : List V → Hp → Prop, (∀ vs H2, Ex H1 H2 → R vs H2 → Q vs H2) → ta σ H1 Q
section
variable {K : PySem.W.Frag} {σ : L2.St} {H H' : Hp} {ta tb te tl : TE} {tr : TA} {t : TT} {x y z v w : V} {D : Ends} {tu tz : TS} {R : Hp → V → Hp → Prop} {S : Hp → V → Hp → Prop} {RA : List V → Hp → Prop}
theorem eax_nil (h : ∀ H1, Ex H H1 → RA [] H1) : EvAX tNil σ H RA := fun H1 e Q q => q [] H1 (Ex.refl _) (h H1 e)
theorem eax_cons (h : EvX te σ H S) (hr : ∀ H0 v H1, Ex H H1 → S H0 v H1 → EvAX tr σ H1 (fun ws H2 => RA (v :: ws) H2)) : EvAX (tCons te tr) σ H RA := fun H1 e Q q =>
  h H1 e _ fun v H2 e2 s => hr H1 v H2 (e.trans e2) s H2 (Ex.refl _) _ fun ws H3 e3 r => q _ H3 (e2.trans e3) r
theorem eax_v (h : Ev te σ H v) (hr : EvAX tr σ H (fun ws H2 => RA (v :: ws) H2)) : EvAX (tCons te tr) σ H RA := fun H1 e Q q =>
  h H1 e _ fun H2 e2 => hr H2 (e.trans e2) _ fun ws H3 e3 r => q _ H3 (e2.trans e3) r
theorem eax_l {xs : List V} (h : EvL te σ H xs) (hr : ∀ p H1, Ex H H1 → H1 p = some (.lst xs) → EvAX tr σ H1 (fun ws H2 => RA (.ref p :: ws) H2)) : EvAX (tCons te tr) σ H RA :=
  eax_cons (S := NL xs) (ex_l' h) fun _ v H1 e ⟨p, e1, _, h1⟩ => by
    subst e1
    exact hr p H1 e h1
theorem eax_u {xs : List V} (h : EvU te σ H xs) (hr : ∀ p H1, Ex H H1 → H1 p = some (.tup xs) → EvAX tr σ H1 (fun ws H2 => RA (.ref p :: ws) H2)) : EvAX (tCons te tr) σ H RA := fun H1 e Q q =>
  h H1 e _ fun p H2 _ e2 hp => hr p H2 (e.trans e2) hp H2 (Ex.refl _) _ fun ws H3 e3 r => q _ H3 (e2.trans e3) r
theorem exx_call {sp : Sp} {dvs : List V} {E : XK} (hR : Back R) (h : EvAX tr σ H RA) (hs : ∀ vs H1, Ex H H1 → RA vs H1 → SpX sp (vs ++ dvs) H1 R) : EvX (tCall sp dvs E tr) σ H R := fun H1 e Q q =>
  h H1 e _ fun vs H2 e2 r => hs vs H2 (e.trans e2) r H2 (Ex.refl _) Q (fun v H3 e3 r => q v H3 (e2.trans e3) (hR _ _ _ _ e2 r)) E
theorem sp_lx {sp : Sp} {vs xs : List V} (h : SpL sp vs H xs) : SpX sp vs H (NL xs) := fun H1 e Q q E => h H1 e Q (fun p H2 hp e2 h2 => q _ H2 e2 ⟨p, rfl, hp, h2⟩) E
theorem sp_vx {sp : Sp} {vs : List V} (h : SpV sp vs H v) : SpX sp vs H (fun _ w _ => w = v) := fun H1 e Q q E => h H1 e Q (fun H2 e2 => q _ H2 e2 rfl) E
theorem back_V : Back (fun _ w _ => w = v) := fun _ _ _ _ _ h => h

/-! ### a for over a new list of pairs -/
theorem s_forP {ps : List (Int × Int)} {j : Nat} (h : EvX tl σ H (NP ps)) (k : ∀ p xs H1, H p = none → Ex H H1 → H1 p = some (.lst xs) → Prs H1 xs ps → ∃ Pv : Nat → L2.St → Hp → Prop, Pv 0 σ H1 ∧ (∀ i σ' H', Pv i σ' H' → H' p = some (.lst xs)) ∧
    (∀ i (q : Int × Int) t σ' H', ps[i]? = some q → H1 t = some (.tup [.int q.1, .int q.2]) → Pv i σ' H' → tu { D with nx := Pv (i + 1), ct := Pv (i + 1), bk := D.nx } (σ'.set j (some (.ref t))) H') ∧ ∀ σ' H', Pv ps.length σ' H' → D.nx σ' H') :
    tFor (iList K tl) (gName j) tu D σ H := h H (Ex.refl H) _ fun v H1 e hv => by
  obtain ⟨p, xs, rfl, h0, h1, h2⟩ := hv
  obtain ⟨Pv, k1, k2, k3, k4⟩ := k p xs H1 h0 e h1 h2
  refine ⟨p, rfl, ⟨xs, sq_of h1⟩, for_list Pv k1 (fun i σ' H' _ hp => sq_of (k2 i σ' H' hp)) (fun i x σ' H' hx hp => ?_) fun σ' H' hp => k4 σ' H' (by rw [← h2.len]; exact hp)⟩
  obtain ⟨q, t, hq, rfl, ht⟩ := h2.get hx
  exact k3 i q t σ' H' hq ht hp
theorem q_forP {ps : List (Int × Int)} {j : Nat} (h : EvX tl σ H (NP ps)) (k : ∀ p xs H1, H p = none → Ex H H1 → H1 p = some (.lst xs) → Prs H1 xs ps → ∃ Pv : Nat → L2.St → Hp → Prop, Pv 0 σ H1 ∧ (∀ i σ' H', Pv i σ' H' → H' p = some (.lst xs)) ∧
    (∀ i (q : Int × Int) t σ' H', ps[i]? = some q → H1 t = some (.tup [.int q.1, .int q.2]) → Pv i σ' H' → tu { D with nx := Pv (i + 1), ct := Pv (i + 1), bk := tz D } (σ'.set j (some (.ref t))) H') ∧ ∀ σ' H', Pv ps.length σ' H' → tz D σ' H') :
    tSeq (tFor (iList K tl) (gName j) tu) tz D σ H := s_forP (D := { D with nx := tz D }) h k
/-! ### the greatest, the least -/
end
def maxL : List Int → Int
  | [] => 0
  | [x] => x
  | x :: y :: r => if x ≤ maxL (y :: r) then maxL (y :: r) else x
def minL : List Int → Int
  | [] => 0
  | [x] => x
  | x :: y :: r => if minL (y :: r) ≤ x then minL (y :: r) else x
theorem maxL_is : ∀ {ns : List Int}, 0 < ns.length → maxL ns ∈ ns ∧ ∀ y ∈ ns, y ≤ maxL ns
  | [], h => by simp at h
  | [x], _ => ⟨List.mem_singleton.mpr rfl, fun y hy => by rw [List.mem_singleton.mp hy]; exact Int.le_refl _⟩
  | x :: y :: r, _ => by
    obtain ⟨h1, h2⟩ := maxL_is (ns := y :: r) (by simp)
    unfold maxL
    split
    · rename_i h
      refine ⟨List.mem_cons_of_mem _ h1, fun z hz => ?_⟩
      rcases List.mem_cons.mp hz with e | hz
      · rw [e]; exact h
      · exact h2 z hz
    · rename_i h
      refine ⟨List.mem_cons_self, fun z hz => ?_⟩
      rcases List.mem_cons.mp hz with e | hz
      · rw [e]; exact Int.le_refl _
      · have := h2 z hz
        omega
theorem minL_is : ∀ {ns : List Int}, 0 < ns.length → minL ns ∈ ns ∧ ∀ y ∈ ns, minL ns ≤ y
  | [], h => by simp at h
  | [x], _ => ⟨List.mem_singleton.mpr rfl, fun y hy => by rw [List.mem_singleton.mp hy]; exact Int.le_refl _⟩
  | x :: y :: r, _ => by
    obtain ⟨h1, h2⟩ := minL_is (ns := y :: r) (by simp)
    unfold minL
    split
    · rename_i h
      refine ⟨List.mem_cons_of_mem _ h1, fun z hz => ?_⟩
      rcases List.mem_cons.mp hz with e | hz
      · rw [e]; exact h
      · exact h2 z hz
    · rename_i h
      refine ⟨List.mem_cons_self, fun z hz => ?_⟩
      rcases List.mem_cons.mp hz with e | hz
      · rw [e]; exact Int.le_refl _
      · have := h2 z hz
        omega
section
variable {K : PySem.W.Frag} {σ : L2.St} {H H' : Hp} {ta tb te tl : TE}
theorem max_one {ns : List Int} {m : Int} (h0 : 0 < ns.length) (h1 : m ∈ ns) (h2 : ∀ y, y ∈ ns → y ≤ m) : m = maxL ns := by
  obtain ⟨a, b⟩ := maxL_is h0
  have := h2 _ a
  have := b _ h1
  omega
theorem min_one {ns : List Int} {m : Int} (h0 : 0 < ns.length) (h1 : m ∈ ns) (h2 : ∀ y, y ∈ ns → m ≤ y) : m = minL ns := by
  obtain ⟨a, b⟩ := minL_is h0
  have := h2 _ a
  have := b _ h1
  omega
theorem ev_max {a : Addr} {ns : List Int} (ha : Ev ta σ H (.ref a)) (hx : SqL K H a (ns.map V.int)) (h0 : 0 < ns.length) : Ev (tCB (rMax K) (tCons ta tNil)) σ H (.int (maxL ns)) := fun H1 e Q q =>
  ha H1 e _ fun H2 e2 => ⟨a, ns, rfl, ex_l (e.trans e2) hx, h0, fun m h1 h2 => by
    rw [max_one h0 h1 h2]
    exact q H2 e2⟩
theorem ev_min {a : Addr} {ns : List Int} (ha : Ev ta σ H (.ref a)) (hx : SqL K H a (ns.map V.int)) (h0 : 0 < ns.length) : Ev (tCB (rMin K) (tCons ta tNil)) σ H (.int (minL ns)) := fun H1 e Q q =>
  ha H1 e _ fun H2 e2 => ⟨a, ns, rfl, ex_l (e.trans e2) hx, h0, fun m h1 h2 => by
    rw [min_one h0 h1 h2]
    exact q H2 e2⟩
end
theorem maxL_le {ns : List Int} {m : Int} (h0 : 0 < ns.length) (h : ∀ x ∈ ns, x ≤ m) : maxL ns ≤ m := h _ (maxL_is h0).1
end Lw

set_option Elab.async false
set_option linter.all false
set_option maxRecDepth 100000
set_option maxHeartbeats 4000000
/-! W1: dicts. -/
namespace Lw
open PySem PySem.Spec PyProof.Rows L2 Evl

/-! ### {k: v}, the key a tuple -/
def tDispT1 (tk tv : TE) : TE := fun σ H Q => ∀ p, H p = none → tk σ (upd H p (.dT [])) fun x H1 => tv σ H1 fun y H2 => H2 p = some (.dT []) ∧ ∃ (b : Addr) (k : List L2.Key), x = .ref b ∧ H2 b = some (.tup (k.map kV)) ∧ Q (.ref p) (upd H2 p (.dT [(k, y)]))
theorem pe_dispT1 {X : Cx} {ke ve : Expr} {tk tv : TE} {pos : Pos} (hu : X.A.units + 64 < cLine) (hk : PE X ke tk) (hv : PE X ve tv) : PE X (.Dict [some ke] [ve] pos) (tDispT1 tk tv) := by
  refine ⟨fun pins s σ H Q I q => ?_⟩
  have hn := I.hok.fresh (Nat.le_refl s.heap.objs.size)
  have I1 := I.laid (a := s.heap.objs.size) (o := .dT []) (h' := s.heap.push { cls := .type "dict", data := .dict #[] }) (t' := s.toks) (fun _ _ q => Heap.get?_push_of_some _ q) (Nat.le_refl _) (dt_empty s.heap I.big)
  have hroom : (tupleKind (mixKind X.prog X.w)).room X.A := by
    show X.A.units < cLine
    omega
  have hsh := zip_pairTrees [some ke] [ve] X.env pos rfl rfl
  have hn1 : (pairTrees [some ke] [ve] X.env pos).length = 1 := pairTrees_length [some ke] [ve] X.env pos rfl rfl
  rw [arm_eval_Dict, hsh, dictDisplay_pairs (pairTrees [some ke] [ve] X.env pos) (fun h => by rw [h] at hn1; cases hn1) (by rw [hn1]; decide)]
  refine wpAny_bind (wpAny_standAt (wpAny_bind (wpAny_subDictH (knd := tupleKind (mixKind X.prog X.w)) hroom (by rw [hn1]; decide) ?_)))
  refine pairTrees_cons_walk (thn (hk.run pins _ σ _ _ I1 (q _ hn)) fun u s1 ⟨x, H1, I2, rx, q1⟩ => thn (hv.run pins s1 σ H1 _ I2 q1) fun v s2 ⟨y, H2, I3, ry, e, b, k, ex, eb, q2⟩ => pairTrees_nil_walk ?_)
  subst ex
  cases (show u = Value.ref b from rx)
  obtain ⟨z, hd, xs, rel, dd⟩ := dt_of I3.hok e
  cases rel
  refine ⟨[(k, b, v)], ⟨rfl, rfl, key_of I3.hok eb, trivial⟩, dd, fun h' tk hm hs => wpAny_pure ?_⟩
  obtain ⟨o, es, ep, ho, h2, h3, h4, h6, h5⟩ := hm
  refine ⟨.ref s.heap.objs.size, _, ?_, rfl, q2⟩
  refine d_write I3 (by rw [e]; exact True.intro) hs ⟨o, ho⟩ ⟨show 1 ≤ sizeLine by decide, hd, [(k, b, v)], .cons ⟨rfl, ?_, ry⟩ .nil, o, es, ep, ho, h2, h3, h4, h5⟩
  rw [upd_ne (ne_of eb e (fun z => nomatch z))]
  exact eb

def kI (ns : List Int) : List L2.Key := ns.map Sum.inl
theorem kI_V (ns : List Int) : (kI ns).map kV = ns.map V.int := by
  unfold kI
  rw [List.map_map]
  rfl
theorem kI_inj {a b : List Int} (h : kI a = kI b) : a = b := by
  unfold kI at h
  exact (List.map_inj_right (fun x y e => Sum.inl.inj e)).mp h
/-! ### heaps that differ at some places -/
def ExS (ms : List Addr) (H H' : Hp) : Prop := ∀ a o, a ∉ ms → H a = some o → H' a = some o
theorem ExS.refl {ms : List Addr} (H : Hp) : ExS ms H H := fun _ _ _ h => h
theorem ExS.of {ms : List Addr} {H H' : Hp} (e : Ex H H') : ExS ms H H' := fun a o _ h => e a o h
theorem ExS.trans {ms : List Addr} {H H1 H2 : Hp} (a : ExS ms H H1) (b : ExS ms H1 H2) : ExS ms H H2 := fun x o n h => b x o n (a x o n h)
theorem ExS.put {ms : List Addr} {H H' : Hp} {m : Addr} {o : HO} (e : ExS ms H H') (h : m ∈ ms) : ExS ms H (upd H' m o) := fun a u n ha => by
  rw [upd_ne (fun z => n (by rw [z]; exact h))]
  exact e a u n ha
theorem ExS.more {ms ms' : List Addr} {H H' : Hp} (e : ExS ms H H') (h : ∀ a ∈ ms, a ∈ ms') : ExS ms' H H' := fun a o n ha => e a o (fun z => n (h a z)) ha
theorem ExS.ex {ms : List Addr} {B H H' : Hp} (e : Ex B H) (s : ExS ms H H') (h : ∀ m ∈ ms, B m = none) : Ex B H' := fun a o ha => s a o (fun z => by rw [h a z] at ha; cases ha) (e a o ha)
theorem rd_mono {H H' : Hp} {d : Addr} {o : HO} (e : Ex H H') (h : Rd H d o) : Rd H' d o := ex_rd e h
section
variable {K : PySem.W.Frag} {σ : L2.St} {H H' : Hp} {td ty tv tx ta tb te : TE} {t : TT} {x y z v w : V} {D : Ends} {tu tz : TS} {R : Hp → V → Hp → Prop} {d b : Addr}
/-! ### what a dict tells -/
theorem et_ninT {kvs : List (List L2.Key × V)} {ns : List Int} (hk : Ev ty σ H (.ref b)) (hd : Ev td σ H (.ref d)) (hb : H b = some (.tup (ns.map V.int))) (hD : Rd H d (.dT kvs)) : EvT (tB (tDNotIn ty td)) σ H (!(valV kvs (kI ns)).isSome) := fun H1 e Q q =>
  hk H1 e _ fun H2 e2 => hd H2 (e.trans e2) _ fun H3 e3 => ⟨d, _, rfl, .inr ⟨kvs, kI ns, b, ex_rd ((e.trans e2).trans e3) hD, rfl, by rw [kI_V]; exact ((e.trans e2).trans e3) _ _ hb, rfl⟩, _, rfl, q H3 (e2.trans e3)⟩
theorem et_inK {kvs : List (L2.Key × V)} {n : Int} (hk : Ev ty σ H (.int n)) (hd : Ev td σ H (.ref d)) (hD : Rd H d (.dK kvs)) : EvT (tB (tDIn ty td)) σ H (valV kvs (Sum.inl n : L2.Key)).isSome := fun H1 e Q q =>
  hk H1 e _ fun H2 e2 => hd H2 (e.trans e2) _ fun H3 e3 => ⟨d, _, rfl, .inl ⟨kvs, Sum.inl n, ex_rd ((e.trans e2).trans e3) hD, rfl, rfl⟩, _, rfl, q H3 (e2.trans e3)⟩
theorem et_ninK {kvs : List (L2.Key × V)} {n : Int} (hk : Ev ty σ H (.int n)) (hd : Ev td σ H (.ref d)) (hD : Rd H d (.dK kvs)) : EvT (tB (tDNotIn ty td)) σ H (!(valV kvs (Sum.inl n : L2.Key)).isSome) := fun H1 e Q q =>
  hk H1 e _ fun H2 e2 => hd H2 (e.trans e2) _ fun H3 e3 => ⟨d, _, rfl, .inl ⟨kvs, Sum.inl n, ex_rd ((e.trans e2).trans e3) hD, rfl, rfl⟩, _, rfl, q H3 (e2.trans e3)⟩
theorem ev_dgetT {kvs : List (List L2.Key × V)} {ns : List Int} (hd : Ev td σ H (.ref d)) (hk : Ev ty σ H (.ref b)) (hb : H b = some (.tup (ns.map V.int))) (hD : Rd H d (.dT kvs)) (hv : valV kvs (kI ns) = some v) : Ev (tDGet td ty) σ H v := fun H1 e Q q =>
  hd H1 e _ fun H2 e2 => hk H2 (e.trans e2) _ fun H3 e3 => ⟨d, v, rfl, .inr ⟨kvs, kI ns, b, ex_rd ((e.trans e2).trans e3) hD, rfl, by rw [kI_V]; exact ((e.trans e2).trans e3) _ _ hb, hv.symm⟩, q H3 (e2.trans e3)⟩
theorem ev_dgetK {kvs : List (L2.Key × V)} {n : Int} (hd : Ev td σ H (.ref d)) (hk : Ev ty σ H (.int n)) (hD : Rd H d (.dK kvs)) (hv : valV kvs (Sum.inl n : L2.Key) = some v) : Ev (tDGet td ty) σ H v := fun H1 e Q q =>
  hd H1 e _ fun H2 e2 => hk H2 (e.trans e2) _ fun H3 e3 => ⟨d, v, rfl, .inl ⟨kvs, Sum.inl n, ex_rd ((e.trans e2).trans e3) hD, rfl, hv.symm⟩, q H3 (e2.trans e3)⟩
theorem ev_dget2K {kvs : List (L2.Key × V)} {n : Int} (hd : Ev td σ H (.ref d)) (hk : Ev ty σ H (.int n)) (hx : Ev tx σ H z) (hD : Rd H d (.dK kvs)) : Ev (tDGet2 td ty tx) σ H ((valV kvs (Sum.inl n : L2.Key)).getD z) := fun H1 e Q q =>
  hd H1 e _ fun H2 e2 => ⟨d, rfl, .inl ⟨kvs, ex_rd (e.trans e2) hD⟩, hk H2 (e.trans e2) _ fun H3 e3 => hx H3 ((e.trans e2).trans e3) _ fun H4 e4 => ⟨_, .inl ⟨kvs, Sum.inl n, ex_rd (((e.trans e2).trans e3).trans e4) hD, rfl, rfl⟩, q H4 ((e2.trans e3).trans e4)⟩⟩
theorem ev_dget2T {kvs : List (List L2.Key × V)} {ns : List Int} (hd : Ev td σ H (.ref d)) (hk : Ev ty σ H (.ref b)) (hx : Ev tx σ H z) (hb : H b = some (.tup (ns.map V.int))) (hD : Rd H d (.dT kvs)) : Ev (tDGet2 td ty tx) σ H ((valV kvs (kI ns)).getD z) := fun H1 e Q q =>
  hd H1 e _ fun H2 e2 => ⟨d, rfl, .inr ⟨kvs, ex_rd (e.trans e2) hD⟩, hk H2 (e.trans e2) _ fun H3 e3 => hx H3 ((e.trans e2).trans e3) _ fun H4 e4 => ⟨_, .inr ⟨kvs, kI ns, b, ex_rd (((e.trans e2).trans e3).trans e4) hD, rfl, by rw [kI_V]; exact (((e.trans e2).trans e3).trans e4) _ _ hb, rfl⟩, q H4 ((e2.trans e3).trans e4)⟩⟩
theorem ev_lenDT {kvs : List (List L2.Key × V)} (ha : Ev ta σ H (.ref d)) (h : H d = some (.dT kvs)) : Ev (tCB rLenT (tCons ta tNil)) σ H (.int (kvs.length : Int)) := fun H1 e Q q =>
  ha H1 e _ fun H2 e2 => ⟨d, kvs, rfl, (e.trans e2) _ _ h, q H2 e2⟩
/-! ### stores -/
theorem sz10 {n : Nat} (h : n < 16000000) : n < sizeLine := Nat.lt_of_lt_of_le h (by decide)
theorem s_dputK {kvs : List (L2.Key × V)} {n : Int} (hv : Ev tv σ H v) (hd : Ev td σ H (.ref d)) (hk : Ev ty σ H (.int n)) (hD : H d = some (.dK kvs)) (hl : kvs.length < 16000000) (k : ∀ H1, Ex H H1 → D.nx σ (upd H1 d (.dK (putK kvs (Sum.inl n) v)))) : sDPut td ty tv D σ H :=
  hv H (Ex.refl _) _ fun H1 e1 => hd H1 e1 _ fun H2 e2 => hk H2 (e1.trans e2) _ fun H3 e3 => ⟨d, _, rfl, DPut.k (k := Sum.inl n) (((e1.trans e2).trans e3) _ _ hD) (sz10 hl), k H3 ((e1.trans e2).trans e3)⟩
theorem q_dputK {kvs : List (L2.Key × V)} {n : Int} (hv : Ev tv σ H v) (hd : Ev td σ H (.ref d)) (hk : Ev ty σ H (.int n)) (hD : H d = some (.dK kvs)) (hl : kvs.length < 16000000) (k : ∀ H1, Ex H H1 → tz D σ (upd H1 d (.dK (putK kvs (Sum.inl n) v)))) : tSeq (sDPut td ty tv) tz D σ H := s_dputK (D := { D with nx := tz D }) hv hd hk hD hl k
/-- the key a tuple that stands -/
theorem s_dputT {kvs : List (List L2.Key × V)} {ns : List Int} (hv : Ev tv σ H v) (hd : Ev td σ H (.ref d)) (hk : Ev ty σ H (.ref b)) (hb : H b = some (.tup (ns.map V.int))) (hD : H d = some (.dT kvs)) (hl : kvs.length < 16000000) (k : ∀ H1, Ex H H1 → D.nx σ (upd H1 d (.dT (putK kvs (kI ns) v)))) : sDPut td ty tv D σ H :=
  hv H (Ex.refl _) _ fun H1 e1 => hd H1 e1 _ fun H2 e2 => hk H2 (e1.trans e2) _ fun H3 e3 => ⟨d, _, rfl, DPut.t (k := kI ns) (((e1.trans e2).trans e3) _ _ hD) (by rw [kI_V]; exact ((e1.trans e2).trans e3) _ _ hb) (sz10 hl), k H3 ((e1.trans e2).trans e3)⟩
theorem q_dputT {kvs : List (List L2.Key × V)} {ns : List Int} (hv : Ev tv σ H v) (hd : Ev td σ H (.ref d)) (hk : Ev ty σ H (.ref b)) (hb : H b = some (.tup (ns.map V.int))) (hD : H d = some (.dT kvs)) (hl : kvs.length < 16000000) (k : ∀ H1, Ex H H1 → tz D σ (upd H1 d (.dT (putK kvs (kI ns) v)))) : tSeq (sDPut td ty tv) tz D σ H := s_dputT (D := { D with nx := tz D }) hv hd hk hb hD hl k
/-- the key a new tuple -/
theorem s_dputTN {kvs : List (List L2.Key × V)} {ns : List Int} (hv : Ev tv σ H v) (hd : Ev td σ H (.ref d)) (hk : EvU ty σ H (ns.map V.int)) (hD : H d = some (.dT kvs)) (hl : kvs.length < 16000000) (k : ∀ H1, Ex H H1 → D.nx σ (upd H1 d (.dT (putK kvs (kI ns) v)))) : sDPut td ty tv D σ H :=
  hv H (Ex.refl _) _ fun H1 e1 => hd H1 e1 _ fun H2 e2 => hk H2 (e1.trans e2) _ fun b H3 _ e3 hb => ⟨d, _, rfl, DPut.t (k := kI ns) (((e1.trans e2).trans e3) _ _ hD) (by rw [kI_V]; exact hb) (sz10 hl), k H3 ((e1.trans e2).trans e3)⟩
/-! ### new dicts -/
def NDT (kvs : List (List L2.Key × V)) : Hp → V → Hp → Prop := fun H1 v H2 => ∃ p, v = .ref p ∧ H1 p = none ∧ H2 p = some (.dT kvs)
theorem back_DT {kvs : List (List L2.Key × V)} : Back (NDT kvs) := fun H1 H2 v H3 e ⟨p, h1, h2, h3⟩ => ⟨p, h1, fresh_back e h2, h3⟩
theorem back_D {kvs : List (L2.Key × V)} : Back (ND kvs) := fun H1 H2 v H3 e ⟨p, h1, h2, h3⟩ => ⟨p, h1, fresh_back e h2, h3⟩
theorem ex_newT : EvX tDNewT σ H (NDT []) := fun H1 e Q q p hp => q _ _ (Ex.new hp) ⟨p, rfl, hp, upd_same⟩
theorem ex_newK : EvX tDNewK σ H (ND []) := fun H1 e Q q p hp => q _ _ (Ex.new hp) ⟨p, rfl, hp, upd_same⟩
theorem ex_dispT1 {ns : List Int} (hk : EvU ta σ H (ns.map V.int)) (hv : Ev tv σ H v) : EvX (tDispT1 ta tv) σ H (NDT [(kI ns, v)]) := fun H1 e Q q p hp =>
  hk _ (e.trans (Ex.new hp)) _ fun b H2 _ e2 hb => hv H2 ((e.trans (Ex.new hp)).trans e2) _ fun H3 e3 =>
    ⟨e3 _ _ (e2 _ _ upd_same), b, kI ns, rfl, by rw [kI_V]; exact e3 _ _ hb, q _ _ (Ex.mut (((Ex.new hp).trans e2).trans e3) hp) ⟨p, rfl, hp, upd_same⟩⟩
theorem ex_dispK1 {n : Int} (hk : Ev ta σ H (.int n)) (hv : Ev tv σ H v) : EvX (tDisp [(ta, tv)]) σ H (ND [(Sum.inl n, v)]) := fun H1 e Q q p hp =>
  hk _ (e.trans (Ex.new hp)) _ fun H2 e2 => hv H2 ((e.trans (Ex.new hp)).trans e2) _ fun H3 e3 =>
    ⟨e3 _ _ (e2 _ _ upd_same), [(Sum.inl n, v)], rfl, (show 1 ≤ 15 by decide), q _ _ (Ex.mut (((Ex.new hp).trans e2).trans e3) hp) ⟨p, rfl, hp, upd_same⟩⟩
/-! ### tuple(..) of a new list; list(..) of a tuple -/
theorem eu_tupN {xs : List V} (ha : EvL ta σ H xs) : EvU (tCB (rTup K) (tCons ta tNil)) σ H xs := fun H1 e Q q =>
  ha H1 e _ fun p H2 _ e2 hp => ⟨p, xs, rfl, .inl ⟨sq_of hp, fun l hl => q l _ (fresh_back e2 hl) (e2.trans (Ex.new hl)) upd_same⟩⟩
theorem eu_tupL {xs : List V} {a : Addr} (ha : Ev ta σ H (.ref a)) (hx : SqL K H a xs) : EvU (tCB (rTup K) (tCons ta tNil)) σ H xs := fun H1 e Q q =>
  ha H1 e _ fun H2 e2 => ⟨a, xs, rfl, .inl ⟨ex_l (e.trans e2) hx, fun l hl => q l _ (fresh_back e2 hl) (e2.trans (Ex.new hl)) upd_same⟩⟩
/-! ### for over a dict's keys, the dict locked meanwhile -/
theorem s_forKT {i j : Nat} {kvs : List (List L2.Key × V)} (hv : σ[i]? = some (some (.ref d))) (hd : H d = some (.dT kvs)) (Pv : Obj → Nat → L2.St → Hp → Prop) (h0 : ∀ od, Pv od 0 σ (upd H d (.frz od (.dT kvs)))) (hP : ∀ od m σ' H', Pv od m σ' H' → H' d = some (.frz od (.dT kvs)))
    (hs : ∀ od m k v q σ' H', kvs[m]? = some (k, v) → H' q = some (.tup (k.map kV)) → Pv od m σ' H' →
      tu ⟨Pv od (m + 1), fun u H' => H' d = some (.frz od (.dT kvs)) ∧ D.rt u (upd H' d (.dT kvs)), fun σ' H' => H' d = some (.frz od (.dT kvs)) ∧ D.nx σ' (upd H' d (.dT kvs)), Pv od (m + 1)⟩ (σ'.set j (some (.ref q))) H')
    (hn : ∀ od σ' H', Pv od kvs.length σ' H' → D.nx σ' (upd H' d (.dT kvs))) : tLock (tFor (iKeys (tVar i)) (gName j) tu) D σ H :=
  ⟨d, .dT kvs, hd, trivial, fun od => ⟨.ref d, hv, d, od, rfl, .inr ⟨kvs, upd_same, for_it walk_keysT (Pv od) (h0 od) (fun m σ' H' _ p => hP od m σ' H' p) (fun m x σ' H' H2 hm p y => by
    obtain ⟨e, k, v, q, hk, ex, hq⟩ := y
    subst e ex
    exact hs od m k v q σ' _ hk hq p) (fun σ' H' p => ⟨hP od _ σ' H' p, hn od σ' H' p⟩)⟩⟩⟩
theorem s_forKK {i j : Nat} {kvs : List (L2.Key × V)} (hv : σ[i]? = some (some (.ref d))) (hd : H d = some (.dK kvs)) (Pv : Obj → Nat → L2.St → Hp → Prop) (h0 : ∀ od, Pv od 0 σ (upd H d (.frz od (.dK kvs)))) (hP : ∀ od m σ' H', Pv od m σ' H' → H' d = some (.frz od (.dK kvs)))
    (hs : ∀ od m k v σ' H', kvs[m]? = some (k, v) → Pv od m σ' H' →
      tu ⟨Pv od (m + 1), fun u H' => H' d = some (.frz od (.dK kvs)) ∧ D.rt u (upd H' d (.dK kvs)), fun σ' H' => H' d = some (.frz od (.dK kvs)) ∧ D.nx σ' (upd H' d (.dK kvs)), Pv od (m + 1)⟩ (σ'.set j (some (kV k))) H')
    (hn : ∀ od σ' H', Pv od kvs.length σ' H' → D.nx σ' (upd H' d (.dK kvs))) : tLock (tFor (iKeys (tVar i)) (gName j) tu) D σ H :=
  ⟨d, .dK kvs, hd, trivial, fun od => ⟨.ref d, hv, d, od, rfl, .inl ⟨kvs, upd_same, for_it walk_keys (Pv od) (h0 od) (fun m σ' H' _ p => hP od m σ' H' p) (fun m x σ' H' H2 hm p y => by
    obtain ⟨e, k, v, hk, ex⟩ := y
    subst e ex
    exact hs od m k v σ' _ hk p) (fun σ' H' p => ⟨hP od _ σ' H' p, hn od σ' H' p⟩)⟩⟩⟩
theorem q_forKT {i j : Nat} {kvs : List (List L2.Key × V)} (hv : σ[i]? = some (some (.ref d))) (hd : H d = some (.dT kvs)) (Pv : Obj → Nat → L2.St → Hp → Prop) (h0 : ∀ od, Pv od 0 σ (upd H d (.frz od (.dT kvs)))) (hP : ∀ od m σ' H', Pv od m σ' H' → H' d = some (.frz od (.dT kvs)))
    (hs : ∀ od m k v q σ' H', kvs[m]? = some (k, v) → H' q = some (.tup (k.map kV)) → Pv od m σ' H' →
      tu ⟨Pv od (m + 1), fun u H' => H' d = some (.frz od (.dT kvs)) ∧ D.rt u (upd H' d (.dT kvs)), fun σ' H' => H' d = some (.frz od (.dT kvs)) ∧ tz D σ' (upd H' d (.dT kvs)), Pv od (m + 1)⟩ (σ'.set j (some (.ref q))) H')
    (hn : ∀ od σ' H', Pv od kvs.length σ' H' → tz D σ' (upd H' d (.dT kvs))) : tSeq (tLock (tFor (iKeys (tVar i)) (gName j) tu)) tz D σ H := s_forKT (D := { D with nx := tz D }) hv hd Pv h0 hP hs hn
theorem q_forKK {i j : Nat} {kvs : List (L2.Key × V)} (hv : σ[i]? = some (some (.ref d))) (hd : H d = some (.dK kvs)) (Pv : Obj → Nat → L2.St → Hp → Prop) (h0 : ∀ od, Pv od 0 σ (upd H d (.frz od (.dK kvs)))) (hP : ∀ od m σ' H', Pv od m σ' H' → H' d = some (.frz od (.dK kvs)))
    (hs : ∀ od m k v σ' H', kvs[m]? = some (k, v) → Pv od m σ' H' →
      tu ⟨Pv od (m + 1), fun u H' => H' d = some (.frz od (.dK kvs)) ∧ D.rt u (upd H' d (.dK kvs)), fun σ' H' => H' d = some (.frz od (.dK kvs)) ∧ tz D σ' (upd H' d (.dK kvs)), Pv od (m + 1)⟩ (σ'.set j (some (kV k))) H')
    (hn : ∀ od σ' H', Pv od kvs.length σ' H' → tz D σ' (upd H' d (.dK kvs))) : tSeq (tLock (tFor (iKeys (tVar i)) (gName j) tu)) tz D σ H := s_forKK (D := { D with nx := tz D }) hv hd Pv h0 hP hs hn
end

theorem fresh_backS {ms : List Addr} {H H' : Hp} {p : Addr} (e : ExS ms H H') (hm : ∀ m ∈ ms, H' m ≠ none) (h : H' p = none) : H p = none := by
  cases h1 : H p with
  | none => rfl
  | some o =>
    have := e p o (fun z => hm p z h) h1
    rw [this] at h
    cases h
section
variable {σ : L2.St} {H : Hp} {tr : TA} {D : Ends} {tz : TS} {RA : List V → Hp → Prop}
/-- calls that change what they are handed -/
theorem q_asgS {sp : Sp} {dvs : List V} {E : XK} {i : Nat} (h : EvAX tr σ H RA) (k : ∀ vs H1, Ex H H1 → RA vs H1 → sp (vs ++ dvs) H1 (fun v H2 => tz D (σ.set i (some v)) H2) E) : tSeq (tAsg (tCall sp dvs E tr) (gName i)) tz D σ H :=
  h H (Ex.refl _) _ fun vs H1 e r => k vs H1 e r
theorem s_retS {sp : Sp} {dvs : List V} {E : XK} (h : EvAX tr σ H RA) (k : ∀ vs H1, Ex H H1 → RA vs H1 → sp (vs ++ dvs) H1 D.rt E) : tRet (tCall sp dvs E tr) D σ H :=
  h H (Ex.refl _) _ fun vs H1 e r => k vs H1 e r
end

section
variable {K : PySem.W.Frag} {σ : L2.St} {H H' : Hp} {td ty tv tx ta tb te : TE} {tl th : TO} {t : TT} {x y z v w : V} {D : Ends} {tu tz : TS} {R R1 R2 : Hp → V → Hp → Prop} {d b : Addr}
theorem el_slN {xs : List V} {lo hi : Option Int} (h : EvL te σ H xs) (h1 : EvO tl σ H lo) (h2 : EvO th σ H hi) : EvL (tSl (rSlL K) te tl th) σ H (cutV xs lo hi) := fun H1 e Q q =>
  h H1 e _ fun a H2 _ e2 ha => h1 H2 (e.trans e2) _ fun H3 e3 => h2 H3 ((e.trans e2).trans e3) _ fun H4 e4 =>
    ⟨a, xs, rfl, sq_of ((e3.trans e4) _ _ ha), fun p hp => q p _ (fresh_back ((e2.trans e3).trans e4) hp) (((e2.trans e3).trans e4).trans (Ex.new hp)) upd_same⟩
theorem cut_take (xs : List V) (n : Nat) : cutV xs none (some (n : Int)) = xs.take n := by
  unfold cutV
  rw [HT.sIx_none, HT.sIx_nat, List.drop_zero, Nat.sub_zero, ← List.take_eq_take_min]
theorem el_rev {xs : List V} {a : Addr} (h : Ev te σ H (.ref a)) (hx : SqL K H a xs) : EvL (tRevL K te) σ H xs.reverse := fun H1 e Q q =>
  h H1 e _ fun H2 e2 => ⟨a, xs, rfl, ex_l (e.trans e2) hx, fun p hp => q p _ (fresh_back e2 hp) (e2.trans (Ex.new hp)) upd_same⟩
theorem kRev {X : Cx} {e : Expr} {te : TE} {k : Nat} {p1 p2 p3 pos : Pos} (h : X.K = K) (he : PE X e te) : PE X (.Subscript e (.Slice none none (some (.UnaryOp .USub (.Constant (.int 1) k p1) p2)) p3) pos) (tRevL K te) := h ▸ pe_revL he
theorem q_parXX {i j : Nat} (h1 : EvX ta σ H R1) (h2 : ∀ H0 v H1, Ex H H1 → R1 H0 v H1 → EvX tb σ H1 R2) (k : ∀ v w H1 H2, Ex H H1 → Ex H1 H2 → R1 H v H1 → R2 H1 w H2 → tz D ((σ.set i (some v)).set j (some w)) H2) : tSeq (tPar i j (tCons ta (tCons tb tNil))) tz D σ H :=
  h1 H (Ex.refl _) _ fun v H1 e1 r1 => h2 H v H1 e1 r1 H1 (Ex.refl _) _ fun w H2 e2 r2 => ⟨v, w, rfl, k v w H1 H2 e1 e2 r1 r2⟩
theorem ev_minK {kvs : List (L2.Key × V)} {is : List Int} (ha : Ev ta σ H (.ref d)) (hd : H d = some (.dK kvs)) (hk : kvs.map (·.1) = is.map Sum.inl) (hne : 0 < is.length) : Ev (tCB rMinK (tCons ta tNil)) σ H (.int (minL is)) := fun H1 e Q q =>
  ha H1 e _ fun H2 e2 => ⟨d, kvs, is, rfl, (e.trans e2) _ _ hd, hk, fun z => by rw [z] at hne; exact Nat.lt_irrefl _ hne, fun m h1 h2 => by
    rw [min_one hne h1 h2]
    exact q H2 e2⟩
end

/-! ### lists of lists -/
def LL (H : Hp) (vs : List V) (ks : List (List Int)) : Prop := Paired (fun (v : V) (k : List Int) => ∃ p, v = .ref p ∧ H p = some (.lst (k.map V.int))) vs ks
theorem LL.mono {H H' : Hp} : ∀ {vs : List V} {ks : List (List Int)}, (∀ (p : Addr) (k : List Int), V.ref p ∈ vs → H p = some (.lst (k.map V.int)) → H' p = some (.lst (k.map V.int))) → LL H vs ks → LL H' vs ks
  | _, _, _, .nil => .nil
  | _, _, e, .cons ⟨p, h1, h2⟩ r => .cons ⟨p, h1, e p _ (by rw [h1]; exact List.mem_cons_self) h2⟩ (LL.mono (fun p k hp => e p k (List.mem_cons_of_mem _ hp)) r)
theorem LL.ex {H H' : Hp} {vs : List V} {ks : List (List Int)} (h : LL H vs ks) (e : Ex H H') : LL H' vs ks := LL.mono (fun p k _ hp => e _ _ hp) h
theorem LL.len {H : Hp} : ∀ {vs : List V} {ks : List (List Int)}, LL H vs ks → vs.length = ks.length
  | _, _, .nil => rfl
  | _, _, .cons _ r => by rw [List.length_cons, List.length_cons, LL.len r]
theorem LL.get {H : Hp} : ∀ {vs : List V} {ks : List (List Int)} {i : Nat} {v : V}, LL H vs ks → vs[i]? = some v → ∃ (k : List Int) (p : Addr), ks[i]? = some k ∧ v = .ref p ∧ H p = some (.lst (k.map V.int))
  | _, _, _, _, .nil, e => by simp at e
  | _, _, 0, _, .cons ⟨p, h1, h2⟩ _, e => by
    rw [List.getElem?_cons_zero] at e
    cases e
    exact ⟨_, p, rfl, h1, h2⟩
  | _, _, i + 1, _, .cons _ r, e => by
    rw [List.getElem?_cons_succ] at e
    obtain ⟨k, p, h1, h2, h3⟩ := LL.get r e
    exact ⟨k, p, by rw [List.getElem?_cons_succ]; exact h1, h2, h3⟩
theorem LL.append {H : Hp} : ∀ {vs ws : List V} {ks ls : List (List Int)}, LL H vs ks → LL H ws ls → LL H (vs ++ ws) (ks ++ ls)
  | _, _, _, _, .nil, s => s
  | _, _, _, _, .cons a r, s => .cons a (LL.append r s)
theorem LL.mem {H : Hp} : ∀ {vs : List V} {ks : List (List Int)} {v : V}, LL H vs ks → v ∈ vs → ∃ (p : Addr) (k : List Int), v = .ref p ∧ H p = some (.lst (k.map V.int))
  | _, _, _, .nil, h => by cases h
  | _, _, v, .cons (b := k) ⟨p, h1, h2⟩ r, h => by
    rcases List.mem_cons.mp h with e | h
    · exact ⟨p, k, e.trans h1, h2⟩
    · exact LL.mem r h
section
variable {K : PySem.W.Frag} {σ : L2.St} {H H' : Hp} {ta te : TE} {D : Ends} {tz : TS} {d : Addr}
theorem ei_keysT {kvs : List (List L2.Key × V)} {od : Obj} (h : Ev ta σ H (.ref d)) (hd : H d = some (.frz od (.dT kvs))) : EvI (iKeys ta) σ H kvs.length (fun Y _ => Y = fun i H x H' => H' = H ∧ ∃ (k : List L2.Key) (v : V) (q : Addr), kvs[i]? = some (k, v) ∧ x = .ref q ∧ H q = some (.tup (k.map kV))) := fun H1 e R k =>
  h H1 e _ fun H2 e2 => ⟨d, od, rfl, .inr ⟨kvs, (e.trans e2) _ _ hd, k _ _ H2 e2 ⟨_, walk_keysT, fun _ e3 => ((e.trans e2).trans e3) _ _ hd⟩ rfl⟩⟩
/-- name = [list(k) for k in d], the keys tuples of whole numbers -/
theorem s_lcLists {i j l : Nat} {vs : List Nat} {kvs : List (List L2.Key × V)} {ks : List (List Int)} (hv : σ[i]? = some (some (.ref d))) (hd : H d = some (.dT kvs)) (hk : kvs.map (·.1) = ks.map kI) (hn : kvs.length ≤ 15000000)
    (hw : ∀ x, wipe ((wipe σ vs).set j (some x)) vs = wipe σ vs) (hj : ∀ x, ((wipe σ vs).set j (some x))[j]? = some (some x)) (k : ∀ p ws H1, H p = none → Ex H H1 → H1 p = some (.lst ws) → LL H1 ws ks → D.nx (σ.set l (some (.ref p))) H1) :
    tLock (tAsg (tLc (iKeys (tVar i)) (gName j) tYes (tCB (rListS K) (tCons (tVar j) tNil)) vs) (gName l)) D σ H := by
  refine ⟨d, .dT kvs, hd, trivial, fun od => ?_⟩
  have hkl : kvs.length = ks.length := by
    have := congrArg List.length hk
    rw [List.length_map, List.length_map] at this
    exact this
  have P : EvX (tLc (iKeys (tVar i)) (gName j) tYes (tCB (rListS K) (tCons (tVar j) tNil)) vs) σ (upd H d (.frz od (.dT kvs))) _ :=
    ex_lc (fun Dl m acc H' => Paired (fun (v : V) (k : List Int) => ∃ p, v = .ref p ∧ p ≠ Dl ∧ H' p = some (.lst (k.map V.int))) acc (ks.take m)) (ei_keysT (ev_var hv) upd_same) hn
      (fun Dl m acc acc' H1 H2 hD hs p => Paired.mapP p fun v k ⟨q, h1, h2, h3⟩ => ⟨q, h1, h2, hs q _ h2 h3⟩) (fun _ _ _ _ _ _ _ _ => .nil)
      (fun Dl Y H0 m x acc H1 H2 e0 hS e1 hm ha hp y => by
        subst hS
        obtain ⟨rfl, k', v, q, h1, rfl, h2⟩ := y
        obtain ⟨c, hc, rfl⟩ : ∃ c, ks[m]? = some c ∧ k' = kI c := by
          have h3 : (kvs.map (·.1))[m]? = some k' := by rw [List.getElem?_map, h1]; rfl
          rw [hk, List.getElem?_map] at h3
          cases e : ks[m]? with
          | none => rw [e] at h3; cases h3
          | some c => rw [e] at h3; exact ⟨c, rfl, (Option.some.inj h3).symm⟩
        rw [kI_V] at h2
        refine ⟨hw _, Ex.refl _, true, et_yes, (fun z => nomatch z), fun _ H4 e4 => ?_⟩
        intro H5 e5 Q q'
        refine el_listT (ev_var (hj _)) (st_of (e4 _ _ h2)) H5 e5 Q fun p H6 hp0 e6 h6 => q' _ H6 e6 ?_
        rw [List.take_add_one, hc]
        have hD5 : H5 Dl = some (.lst acc) := e5 _ _ (e4 _ _ ha)
        refine Paired.snoc (Paired.mapP hp fun v k ⟨r, g1, g2, g3⟩ => ⟨r, g1, g2, e6 _ _ (e5 _ _ (e4 _ _ g3))⟩) ⟨p, rfl, fun z => ?_, h6⟩
        rw [z, hD5] at hp0
        cases hp0) gm_name
  refine P _ (Ex.refl _) _ fun v H1 e1 hv => ?_
  obtain ⟨p, acc, rfl, hp0, hp, hl, hP⟩ := hv
  have hd1 := e1 _ _ (upd_same (H := H) (a := d) (o := .frz od (.dT kvs)))
  have pd : p ≠ d := fun z => by rw [z, upd_same] at hp0; cases hp0
  refine ⟨hd1, k p acc _ ?_ (fun a o ha => ?_) ?_ ?_⟩
  · rw [upd_ne pd] at hp0
    exact hp0
  · by_cases h : a = d
    · rw [h, upd_same, ← hd, ← h, ha]
    · rw [upd_ne h]
      exact e1 _ _ (by rw [upd_ne h]; exact ha)
  · rw [upd_ne pd]
    exact hp
  · rw [hkl, List.take_length] at hP
    refine Paired.mapP hP fun v k ⟨r, g1, _, g3⟩ => ⟨r, g1, ?_⟩
    rw [upd_ne (ne_of g3 hd1 (fun z => nomatch z))]
    exact g3
end
end Lw

set_option Elab.async false
set_option linter.all false
set_option maxRecDepth 100000
set_option maxHeartbeats 4000000
/-! W2: objects. -/
namespace Lw
open PySem PySem.Spec PyProof.Rows L2 Evl

section
variable {X : Cx}
theorem pt_chain3 {a b c d : Expr} {ta tb tc td : TE} {pos : Pos} {op op' op'' : CmpOp} {r r' r'' : R2} (ho : OpR X (compareOp op) r) (ho' : OpR X (compareOp op') r') (ho'' : OpR X (compareOp op'') r'') (ha : PE X a ta) (hb : PE X b tb) (hc : PE X c tc) (hd : PE X d td)
    (hm : lastMarks [op, op', op''] [b, c, d] = false := by with_unfolding_all rfl) : PT X (.Compare a [op, op', op''] [b, c, d] pos) (tTest (tChain3 r r' r'' ta tb tc td)) := by
  refine ⟨fun pins s σ H Q I h => ?_⟩
  refine isTrue_chain (thn (ha.run pins s σ H _ I h) fun v s1 ⟨x, H1, I1, r1, q1⟩ => test_link (thn (hb.run pins s1 σ H1 _ I1 q1) fun u s2 ⟨y, H2, I2, r2, q2⟩ =>
    thn (ho pins s2 σ H2 x y v u _ I2 r1 r2 q2) fun d s3 ⟨z, H3, I3, r3, k, e, q3⟩ => ?_)) hm
  subst e
  cases r3
  refine wpAny_truthy_bool ?_
  cases k with
  | false =>
    obtain ⟨k', e', q'⟩ := q3
    cases e'
    exact ite_ff ⟨H3, I3, q'⟩
  | true =>
    refine ite_tt (test_link (thn (hc.run pins s3 σ H3 _ I3 q3) fun w' s4 ⟨y2, H4, I4, r4, q4⟩ => thn (ho' pins s4 σ H4 y y2 u w' _ I4 r2 r4 q4) fun d' s5 ⟨z2, H5, I5, r5, k2, e2, q5⟩ => ?_))
    subst e2
    cases r5
    refine wpAny_truthy_bool ?_
    cases k2 with
    | false =>
      obtain ⟨k', e', q'⟩ := q5
      cases e'
      exact ite_ff ⟨H5, I5, q'⟩
    | true =>
      refine ite_tt (test_last (thn (hd.run pins s5 σ H5 _ I5 q5) fun w3 s6 ⟨y3, H6, I6, r6, q6⟩ => thn (ho'' pins s6 σ H6 y2 y3 w' w3 _ I6 r4 r6 q6) fun d3 s7 ⟨z3, H7, I7, r7, k3, e3, q7⟩ => ?_))
      subst e3
      cases r7
      exact wpAny_truthy_bool ⟨H7, I7, q7⟩
end
/-! ### C() of a class without an own maker -/
structure Mk0 (K : PySem.W.Frag) (C : Addr) : Prop where
  makes : PySem.W.makesIn K C = true
  init : PySem.W.findIn K (.ref C) "__init__" = some (some (.builtin "object.__init__"))
  top : PySem.W.mroIn K C (.type "object") = some true
  kp : PySem.W.keepIn K (.ref C) = true
def tMk0 (C : Addr) : TE := fun σ H Q => ∀ x dx, H x = none → H dx = none → dx ≠ x → Q (.ref x) (upd (upd H dx (.own x)) x (.ins C dx []))
section
variable {X : Cx} {C : Addr}
theorem run_make0 {pins : List (Addr × Obj)} {σ : L2.St} {H : Hp} {s : Shared} {Q : VK} (M : Mk0 X.K C) (I : L2.Inv X pins σ H s)
    (h : ∀ x dx, H x = none → H dx = none → dx ≠ x → Q (.ref x) (upd (upd H dx (.own x)) x (.ins C dx []))) : wpAny (model X.prog X.w) X.A (call (.ref C) []) (EP X pins σ Q) X.xe s := by
  have hq := h (s.heap.objs.size + 1) s.heap.objs.size (I.hok.fresh (Nat.le_succ _)) (I.hok.fresh (Nat.le_refl _)) (Nat.ne_of_lt (Nat.lt_succ_self _))
  have I2 := Inv.made (C := C) I
  refine wpAny_call (make_map0 I.kIn M.makes M.init (fun self => PySem.W.Looks.of_pure (PySem.W.oi_bind self)) ?_)
  have ho : ((s.heap.push PySem.W.emptyDict).push (PySem.W.instObj C s.heap.objs.size)).get? (s.heap.objs.size + 1) = some (PySem.W.instObj C s.heap.objs.size) := by
    rw [← Heap.size_push s.heap PySem.W.emptyDict]
    exact Heap.get?_push_size _ rfl
  have t1 : PySem.W.Looks (model X.prog X.w) ((s.heap.push PySem.W.emptyDict).push (PySem.W.instObj C s.heap.objs.size)) (typeOf (.ref (s.heap.objs.size + 1))) (.ref C) := (PySem.W.Looks.ld ho).andThen .now
  have t2 : PySem.W.Looks (model X.prog X.w) ((s.heap.push PySem.W.emptyDict).push (PySem.W.instObj C s.heap.objs.size)) (isInstance (.ref (s.heap.objs.size + 1)) (.type "object")) true := t1.andThen (PySem.W.looks_mroIn I2.kIn M.top)
  refine codeAny_call_builtin PySem.W.oi_plain PySem.W.entry_oi (@PySem.W.check_slot (model X.prog X.w) _ _ _ "object.__init__" "object" "__init__" (.ref (s.heap.objs.size + 1)) [] [] _ PySem.W.oi_kind PySem.W.oi_split t2 (PySem.W.oi_args (.ref (s.heap.objs.size + 1))) ?_)
  rw [PySem.W.oi_run]
  exact wpAny_pure (And.intro rfl ⟨V.ref (s.heap.objs.size + 1), _, I2, rfl, hq⟩)
theorem pe_mk0 {x : Str} {p pos : Pos} (M : Mk0 X.K C) (hg : Gl X x) (hm : X.mg x = some (.ref C)) (hdb : (x == ("__debug__" : Str)) = false := by decide) : PE X (.Call (.Name x p) [] [] pos) (tMk0 C) := by
  refine ⟨fun pins s σ H Q I h => ?_⟩
  refine wpAny_Call_Name_kw (ld_glob I hg hm ?_ hdb)
  exact PySem.W.callWith_K0 I.kIn M.kp (run_make0 M I h)
end
/-! ### classes, methods -/
theorem kit_own {K : PySem.W.Frag} {C C2 : Addr} {b : Bool} (h1 : PySem.W.isClsIn K C2 = true) (h2 : PySem.W.typeIn K (.ref C2) = some (.type "type")) (h3 : PySem.W.subIn K (.ref C) (.ref C2) = some b) (hb : C = C2 → b = true) : PySem.W.kitOne K (.ref C) (.ref C2) = some b := by
  unfold PySem.W.kitOne
  by_cases e : C = C2
  · subst e
    rw [if_pos (beq_self_eq_true _), hb rfl]
  · rw [if_neg (fun z => e (Value.ref.inj (eq_of_beq z)))]
    show (if ((PySem.W.clsIn K C2).isSome && PySem.W.typeIn K (.ref C2) == some (.type "type")) = true then PySem.W.subIn K (.ref C) (.ref C2) else none) = some b
    rw [h2, if_pos (by rw [show (PySem.W.clsIn K C2).isSome = true from h1]; simp), h3]
theorem kit_self {K : PySem.W.Frag} {C : Addr} : PySem.W.kitOne K (.ref C) (.ref C) = some true := if_pos (beq_self_eq_true _)
structure Kc (K : PySem.W.Frag) (mg : Str → Option Value) (x : Str) (C : Addr) : Prop where
  g : mg x = some (.ref C)
  cl : Cls K C
  ha : PySem.W.findIn K (.ref C) "__class__" = some (some (.builtin "object.__class__"))
  hn : PySem.W.specialIn K (.builtin "object.__class__") "__get__" = some (some (.builtin "getset_descriptor.__get__"))
  htk : PySem.W.takesIn K (.builtin "object.__class__") = some true
  hm : PySem.W.mroIn K C (.type "object") = some true
structure Dm (K : PySem.W.Frag) (m q : Str) (st : Stmt) (ps : List Str) (f : Addr) (fd : FuncData) : Prop where
  F : Fun K m q st f fd
  b : Binds K fd ps []
structure Me (P : Program) (w : World) (K : PySem.W.Frag) (mg : Str → Option Value) (base : Heap) (CX : CXT) (k : Nat) (C : Addr) (m q : Str) (st : Stmt) (ps : List Str) (sp : Sp) (f : Addr) (fd : FuncData) : Prop where
  D : Dm K m q st ps f fd
  cl : Cls K C
  m : Meth K C m f
  G : FnOk P w K mg base CX k f fd ps sp
section
variable {K : PySem.W.Frag} {mg : Str → Option Value} {σ : L2.St} {H H' : Hp} {td ty tv tx ta tb te tl : TE} {t : TT} {x y z v w : V} {D : Ends} {tu tz : TS} {R : Hp → V → Hp → Prop} {tr : TA} {RA : List V → Hp → Prop}
theorem Kc.isTy {n : Str} {C a dx : Addr} {fs : List (Str × V)} (k : Kc K mg n C) (e : H a = some (.ins C dx fs)) : TyX K H (.ref a) (.ref C) := .base (.ins e k.cl k.ha k.hn k.htk k.hm)
/-- isinstance(x, C), C an own class -/
theorem ev_isiO {u : Value} {C : Addr} {b : Bool} (ha : Ev ta σ H x) (hb : Ev tb σ H (.ref C)) (hx : ∀ H1, Ex H H1 → TyX K H1 x u) (hk : PySem.W.kitOne K u (.ref C) = some b) : Ev (tCB (rIsi K) (tCons ta (tCons tb tNil))) σ H (.bl b) := fun H1 e Q q =>
  ha H1 e _ fun H2 e2 => hb H2 (e.trans e2) _ fun H3 e3 => ⟨x, .ref C, u, .ref C, b, rfl, .own C, hx H3 ((e.trans e2).trans e3), hk, q H3 (e2.trans e3)⟩
theorem ev_fld {C r dx : Addr} {fs : List (Str × V)} {f : Str} (ha : Ev ta σ H (.ref r)) (hr : H r = some (.ins C dx fs)) (cl : Cls K C) (n : NoAttr K C f) (hv : fs.lookup f = some v) : Ev (tFld K ta f) σ H v := fun H1 e Q q =>
  ha H1 e _ fun H2 e2 => ⟨r, C, dx, fs, v, rfl, (e.trans e2) _ _ hr, cl, n, hv, q H2 e2⟩
theorem ev_meth {C r dx : Addr} {fs : List (Str × V)} {m : Str} {sp : Sp} {dvs vs : List V} {E : XK} (ha : Ev ta σ H (.ref r)) (hr : H r = some (.ins C dx fs)) (hm : fs.lookup m = none) (h : EvA tr σ H vs) (hs : SpV sp (.ref r :: (vs ++ dvs)) H z) : Ev (tMeth C m sp dvs E ta tr) σ H z := fun H1 e Q q =>
  ha H1 e _ fun H2 e2 => ⟨r, dx, fs, rfl, (e.trans e2) _ _ hr, hm, h H2 (e.trans e2) _ fun H3 e3 => hs H3 ((e.trans e2).trans e3) Q (fun H4 e4 => q H4 ((e2.trans e3).trans e4)) E⟩
/-- x in a new dict -/
theorem eax_consB {S : Hp → V → Hp → Prop} (hB : Back S) (h : EvX te σ H S) (hr : ∀ v H1, Ex H H1 → S H v H1 → EvAX tr σ H1 (fun ws H2 => RA (v :: ws) H2)) : EvAX (tCons te tr) σ H RA := fun H1 e Q q =>
  h H1 e _ fun v H2 e2 s => hr v H2 (e.trans e2) (hB _ _ _ _ e s) H2 (Ex.refl _) _ fun ws H3 e3 r => q _ H3 (e2.trans e3) r
theorem q_par3 {i j l : Nat} (h : EvAX tr σ H RA) (k : ∀ vs H1, Ex H H1 → RA vs H1 → ∃ a b c, vs = [a, b, c] ∧ tz D (((σ.set i (some a)).set j (some b)).set l (some c)) H1) : tSeq (tPar3 i j l tr) tz D σ H := h H (Ex.refl _) _ fun vs H1 e r => k vs H1 e r
end
/-! ### evaluations that change what is tracked -/
def EvXS (te : TE) (σ : L2.St) (H : Hp) (R : V → Hp → Prop) : Prop := ∀ Q : VK, (∀ v H1, R v H1 → Q v H1) → te σ H Q
def EvTS (t : TT) (σ : L2.St) (H : Hp) (R : Bool → Hp → Prop) : Prop := ∀ Q : Bool → Hp → Prop, (∀ b H1, R b H1 → Q b H1) → t σ H Q
section
variable {K : PySem.W.Frag} {mg : Str → Option Value} {σ : L2.St} {H H' : Hp} {td ty tv tx ta tb te tl : TE} {t : TT} {x y z v w : V} {D : Ends} {tu tw tz : TS} {R : V → Hp → Prop} {tr : TA} {RA : List V → Hp → Prop}
theorem q_whenS {R : Bool → Hp → Prop} (h : EvTS t σ H R) (h1 : ∀ H1, R true H1 → tu { D with nx := tz D } σ H1) (h2 : ∀ H1, R false H1 → tz D σ H1) : tSeq (tIfS t tu tNext) tz D σ H := h _ fun b H1 r => by
  cases b with
  | true => exact h1 H1 r
  | false => exact h2 H1 r
theorem s_whenS {R : Bool → Hp → Prop} (h : EvTS t σ H R) (h1 : ∀ H1, R true H1 → tu D σ H1) (h2 : ∀ H1, R false H1 → D.nx σ H1) : tIfS t tu tNext D σ H := h _ fun b H1 r => by
  cases b with
  | true => exact h1 H1 r
  | false => exact h2 H1 r
theorem xs_ev (h : Ev te σ H v) : EvXS te σ H (fun w H1 => w = v ∧ Ex H H1) := fun Q q => h H (Ex.refl _) Q fun H1 e => q _ _ ⟨rfl, e⟩
/-- f(..), f changing what it is handed -/
theorem xs_call {sp : Sp} {dvs : List V} {E : XK} (h : EvAX tr σ H RA) (hs : ∀ vs H1, Ex H H1 → RA vs H1 → ∀ Q : VK, (∀ v H2, R v H2 → Q v H2) → sp (vs ++ dvs) H1 Q E) : EvXS (tCall sp dvs E tr) σ H R := fun Q q =>
  h H (Ex.refl _) _ fun vs H1 e r => hs vs H1 e r Q q
theorem ts_din {n : Int} {S : Bool → Hp → Prop} (hk : Ev ty σ H (.int n)) (hd : ∀ H1, Ex H H1 → EvXS td σ H1 (fun v H2 => ∃ r es, v = .ref r ∧ H2 r = some (.dK es) ∧ S (valV es (Sum.inl n : L2.Key)).isSome H2)) : EvTS (tB (tDIn ty td)) σ H S := fun Q q =>
  hk H (Ex.refl _) _ fun H1 e1 => hd H1 e1 _ fun v H2 ⟨r, es, ev, hr, s⟩ => ⟨r, _, ev, .inl ⟨es, Sum.inl n, .inl hr, rfl, rfl⟩, _, rfl, q _ _ s⟩
theorem ts_dnin {n : Int} {S : Bool → Hp → Prop} (hk : Ev ty σ H (.int n)) (hd : ∀ H1, Ex H H1 → EvXS td σ H1 (fun v H2 => ∃ r es, v = .ref r ∧ H2 r = some (.dK es) ∧ S (!(valV es (Sum.inl n : L2.Key)).isSome) H2)) : EvTS (tB (tDNotIn ty td)) σ H S := fun Q q =>
  hk H (Ex.refl _) _ fun H1 e1 => hd H1 e1 _ fun v H2 ⟨r, es, ev, hr, s⟩ => ⟨r, _, ev, .inl ⟨es, Sum.inl n, .inl hr, rfl, rfl⟩, _, rfl, q _ _ s⟩
theorem xs_any {S : Bool → Hp → Prop} (h : EvXS ta σ H (fun v H1 => ∃ (p : Addr) (bs : List Bool), v = .ref p ∧ H1 p = some (.lst (bs.map V.bl)) ∧ S (bs.any id) H1)) : EvXS (tCB (rAny K) (tCons ta tNil)) σ H (fun v H1 => ∃ b, v = .bl b ∧ S b H1) := fun Q q =>
  h _ fun v H1 ⟨p, bs, ev, hp, s⟩ => ⟨p, bs, by rw [ev], sq_of hp, q _ _ ⟨_, rfl, s⟩⟩
theorem s_dputTS {b d : Addr} {ns : List Int} (hv : EvXS tv σ H R) (k : ∀ v H1, R v H1 → ∃ kvs, Ev td σ H1 (.ref d) ∧ Ev ty σ H1 (.ref b) ∧ H1 b = some (.tup (ns.map V.int)) ∧ H1 d = some (.dT kvs) ∧ kvs.length < 16000000 ∧ ∀ H2, Ex H1 H2 → D.nx σ (upd H2 d (.dT (putK kvs (kI ns) v)))) : sDPut td ty tv D σ H :=
  hv _ fun v H1 r => by
    obtain ⟨kvs, hd, hk, hb, hD, hl, k⟩ := k v H1 r
    exact hd H1 (Ex.refl _) _ fun H2 e2 => hk H2 e2 _ fun H3 e3 => ⟨d, _, rfl, DPut.t (k := kI ns) ((e2.trans e3) _ _ hD) (by rw [kI_V]; exact (e2.trans e3) _ _ hb) (sz10 hl), k H3 (e2.trans e3)⟩
/-- a comprehension over a new list of pairs, its items changing a dict with tuples as keys -/
theorem xs_lcP {ps : List (Int × Int)} {j : Nat} {vs : List Nat} {d : Addr} {kvs0 : List (List L2.Key × V)} (h : EvX tl σ H (NP ps)) (hd : H d = some (.dT kvs0)) (hn : ps.length ≤ 15000000) (hw : ∀ x, wipe ((wipe σ vs).set j (some x)) vs = wipe σ vs) (Pv : Nat → List V → Hp → Prop)
    (h0 : ∀ H1, Ex H H1 → Pv 0 [] H1) (stay : ∀ i acc H1 D o, H D = none → Pv i acc H1 → Pv i acc (upd H1 D o))
    (step : ∀ i (q : Int × Int) t acc H1, ps[i]? = some q → ExS [d] H H1 → H1 t = some (.tup [.int q.1, .int q.2]) → Pv i acc H1 → EvXS te ((wipe σ vs).set j (some (.ref t))) H1 (fun v H2 => ExS [d] H1 H2 ∧ Pv (i + 1) (acc ++ [v]) H2)) :
    EvXS (tLc (iList K tl) (gName j) tYes te vs) σ H (fun v H1 => ∃ p acc, v = .ref p ∧ H p = none ∧ ExS [d] H H1 ∧ H1 p = some (.lst acc) ∧ Pv ps.length acc H1) := fun Q q => by
  refine h H (Ex.refl _) _ fun v H1 e1 hv => ?_
  obtain ⟨p, xs, rfl, hp0, hp, hr⟩ := hv
  refine ⟨p, rfl, ⟨xs, sq_of hp⟩, fun Dl hD => ?_⟩
  have hDn : H Dl = none := fresh_back e1 hD
  have hd1 := e1 _ _ hd
  have pd : p ≠ d := ne_of hp hd1 (fun z => nomatch z)
  have Dd : Dl ≠ d := fun z => by rw [z, hd1] at hD; cases hD
  refine lc_it (n := xs.length) walk_list (fun i H' => ExS [d] H1 H' ∧ ∃ acc, H' Dl = some (.lst acc) ∧ acc.length ≤ i ∧ Pv i acc H')
    ⟨ExS.of (Ex.new hD), [], upd_same, Nat.zero_le _, h0 _ (e1.trans (Ex.new hD))⟩ (fun i H' _ ⟨s, _⟩ => sq_of (s p _ (by simp only [List.mem_singleton]; exact pd) hp)) (fun i x H2 H3 hi ⟨s, acc, ha, hl, hpv⟩ y => ?_) (fun H' ⟨s, acc, ha, hl, hpv⟩ => ?_)
  · obtain ⟨rfl, hx⟩ := y
    obtain ⟨pr, t, hpr, rfl, ht⟩ := hr.get hx
    have hlen := hr.len
    refine ⟨hw _, ?_⟩
    show te _ _ _
    have htd : t ≠ d := ne_of ht hd1 (fun z => nomatch z)
    refine step i pr t acc H3 hpr ((ExS.of e1).trans s) (s t _ (by simp only [List.mem_singleton]; exact htd) ht) hpv _ fun v H4 ⟨s4, p4⟩ => ?_
    refine ⟨acc, s4 Dl _ (by simp only [List.mem_singleton]; exact Dd) ha, Nat.lt_of_lt_of_le (show acc.length < 16000000 by omega) (by decide), fun a o hn2 ho => ?_, acc ++ [v], upd_same, by rw [List.length_append, List.length_singleton]; omega, stay _ _ _ _ _ hDn p4⟩
    rw [upd_ne (fun z => by rw [z, hD] at ho; cases ho)]
    exact s4 a o hn2 (s a o hn2 ho)
  · rw [hr.len] at hpv
    exact q _ H' ⟨Dl, acc, rfl, hDn, (ExS.of e1).trans s, ha, hpv⟩
/-- x in a new dict of counts, as a value -/
theorem ev_dinN {n : Int} {R : Hp → V → Hp → Prop} {b : Bool} (hk : Ev ty σ H (.int n)) (hd : EvX td σ H R) (hR : ∀ H1 v H2, R H1 v H2 → ∃ r es, v = .ref r ∧ H2 r = some (.dK es) ∧ (valV es (Sum.inl n : L2.Key)).isSome = b) : Ev (tDIn ty td) σ H (.bl b) := fun H1 e Q q =>
  hk H1 e _ fun H2 e2 => hd H2 (e.trans e2) _ fun v H3 e3 r => by
    obtain ⟨r, es, ev, hr, hb⟩ := hR _ _ _ r
    exact ⟨r, _, ev, .inl ⟨es, Sum.inl n, .inl hr, rfl, rfl⟩, by rw [hb]; exact q H3 (e2.trans e3)⟩
theorem ev_dninN {n : Int} {R : Hp → V → Hp → Prop} {b : Bool} (hk : Ev ty σ H (.int n)) (hd : EvX td σ H R) (hR : ∀ H1 v H2, R H1 v H2 → ∃ r es, v = .ref r ∧ H2 r = some (.dK es) ∧ (!(valV es (Sum.inl n : L2.Key)).isSome) = b) : Ev (tDNotIn ty td) σ H (.bl b) := fun H1 e Q q =>
  hk H1 e _ fun H2 e2 => hd H2 (e.trans e2) _ fun v H3 e3 r => by
    obtain ⟨r, es, ev, hr, hb⟩ := hR _ _ _ r
    exact ⟨r, _, ev, .inl ⟨es, Sum.inl n, .inl hr, rfl, rfl⟩, by rw [hb]; exact q H3 (e2.trans e3)⟩
theorem dp_bls : ∀ bs : List Bool, DpAll K H (bs.map V.bl) (bs.map PyData.bool)
  | [] => .nil
  | n :: ns => .cons (.bl n) (dp_bls ns)
theorem ed_lb {bs : List Bool} (h : EvL te σ H (bs.map V.bl)) : EvD K te σ H bs := fun H1 e Q q => h H1 e Q fun p H2 _ e2 hp => q _ H2 e2 (.lst (sq_of hp) (dp_bls bs))
/-- is of truths -/
theorem rv_notB {a b : Bool} : RV rNotB (.bl a) (.bl b) H (.bl (!decide (a = b))) := fun H1 _ _ q => ⟨a, b, rfl, rfl, q H1 (Ex.refl H1)⟩
theorem rv_isB {a b : Bool} : RV rIsB (.bl a) (.bl b) H (.bl (decide (a = b))) := fun H1 _ _ q => ⟨a, b, rfl, rfl, q H1 (Ex.refl H1)⟩
theorem s_forNLn {xs : List V} {tl : TE} {j : Nat} (h : EvL tl σ H xs) (Pv : Addr → Nat → L2.St → Hp → Prop) (h0 : ∀ p H1, H p = none → Ex H H1 → H1 p = some (.lst xs) → Pv p 0 σ H1) (hl : ∀ p i σ' H', i ≤ xs.length → Pv p i σ' H' → SqL K H' p xs)
    (hs : ∀ p i x σ' H', xs[i]? = some x → Pv p i σ' H' → tu { D with nx := Pv p (i + 1), ct := Pv p (i + 1), bk := D.nx } (σ'.set j (some x)) H') (hd : ∀ p σ' H', Pv p xs.length σ' H' → D.nx σ' H') : tFor (iList K tl) (gName j) tu D σ H := s_forNL h Pv h0 hl hs hd
theorem at_lastI {ns : List Int} (h : 0 < ns.length) : atI (ns.map V.int) (-1) = some (.int (ns.getD (ns.length - 1) 0)) := by
  have e : ixN (ns.map V.int).length (-1) = some (ns.length - 1) := by
    unfold ixN
    rw [List.length_map, if_neg (by decide), if_pos (by omega)]
    congr 1
    omega
  unfold atI
  rw [e]
  show (ns.map V.int)[ns.length - 1]? = _
  rw [List.getElem?_map, List.getElem?_eq_getElem (by omega), List.getD_eq_getElem?_getD, List.getElem?_eq_getElem (by omega)]
  rfl
end
end Lw

namespace Lw
open PySem PySem.Spec PyProof.Rows L2 Evl
def topS (i : Nat) : Stmt := PySem.Challenge.pw_lastleft_k08_whole_anew.main.body.getD i (.Pass ⟨0, 0, 0, 0⟩)
abbrev s_is_whole : Stmt := topS 9
theorem sc_is_whole : FnScope ["thing"] ["thing"] (defScope s_is_whole) := ⟨rfl, rfl, rfl, by decide +kernel, rfl, by decide +kernel, by decide +kernel⟩
abbrev s_asked_board : Stmt := topS 10
theorem sc_asked_board : FnScope ["board", "one"] ["board"] (defScope s_asked_board) := ⟨rfl, rfl, rfl, by decide +kernel, rfl, by decide +kernel, by decide +kernel⟩
abbrev s_is_wiping : Stmt := topS 11
theorem sc_is_wiping : FnScope ["thing", "many"] ["thing", "many"] (defScope s_is_wiping) := ⟨rfl, rfl, rfl, by decide +kernel, rfl, by decide +kernel, by decide +kernel⟩
abbrev s_wiped_of : Stmt := topS 12
theorem sc_wiped_of : FnScope ["board", "wiping", "one", "other", "others", "at", "number"] ["board", "wiping"] (defScope s_wiped_of) := ⟨rfl, rfl, rfl, by decide +kernel, rfl, by decide +kernel, by decide +kernel⟩
abbrev s_wiped : Stmt := topS 13
theorem sc_wiped : FnScope ["board", "wiping"] ["board", "wiping"] (defScope s_wiped) := ⟨rfl, rfl, rfl, by decide +kernel, rfl, by decide +kernel, by decide +kernel⟩
abbrev s_wipings_of : Stmt := topS 14
theorem sc_wipings_of : FnScope ["many", "found", "one", "other"] ["many"] (defScope s_wipings_of) := ⟨rfl, rfl, rfl, by decide +kernel, rfl, by decide +kernel, by decide +kernel⟩
abbrev s_left_behind : Stmt := topS 15
theorem sc_left_behind : FnScope ["board", "wipings", "here", "wiping"] ["board", "wipings"] (defScope s_left_behind) := ⟨rfl, rfl, rfl, by decide +kernel, rfl, by decide +kernel, by decide +kernel⟩
abbrev s_Led_init : Stmt := inClass (topS 18) 0
theorem sc_Led_init : FnScope ["self", "wipings"] ["self", "wipings"] (defScope s_Led_init) := ⟨rfl, rfl, rfl, by decide +kernel, rfl, by decide +kernel, by decide +kernel⟩
abbrev s_Led_shows : Stmt := inClass (topS 18) 1
theorem sc_Led_shows : FnScope ["self", "board", "last"] ["self", "board", "last"] (defScope s_Led_shows) := ⟨rfl, rfl, rfl, by decide +kernel, rfl, by decide +kernel, by decide +kernel⟩
abbrev s_can_be : Stmt := topS 19
theorem sc_can_be : FnScope ["board", "last", "known", "key", "wiping"] ["board", "last", "known"] (defScope s_can_be) := ⟨rfl, rfl, rfl, by decide +kernel, rfl, by decide +kernel, by decide +kernel⟩
abbrev s_Never_shows : Stmt := inClass (topS 20) 0
theorem sc_Never_shows : FnScope ["self", "board", "last"] ["self", "board", "last"] (defScope s_Never_shows) := ⟨rfl, rfl, rfl, by decide +kernel, rfl, by decide +kernel, by decide +kernel⟩
abbrev s_ways_of : Stmt := topS 22
theorem sc_ways_of : FnScope ["board", "known", "key", "found", "wiping", "more", "last"] ["board", "known"] (defScope s_ways_of) := ⟨rfl, rfl, rfl, by decide +kernel, rfl, by decide +kernel, by decide +kernel⟩
abbrev s_lasts : Stmt := topS 23
theorem sc_lasts : FnScope ["board"] ["board"] (defScope s_lasts) := ⟨rfl, rfl, rfl, by decide +kernel, rfl, by decide +kernel, by decide +kernel⟩
abbrev s_asked_last : Stmt := topS 24
theorem sc_asked_last : FnScope ["last"] ["last"] (defScope s_asked_last) := ⟨rfl, rfl, rfl, by decide +kernel, rfl, by decide +kernel, by decide +kernel⟩
abbrev s_how_many : Stmt := topS 25
theorem sc_how_many : FnScope ["board", "last"] ["board", "last"] (defScope s_how_many) := ⟨rfl, rfl, rfl, by decide +kernel, rfl, by decide +kernel, by decide +kernel⟩
abbrev s_led : Stmt := topS 26
theorem sc_led : FnScope ["board", "last", "here", "known", "found", "wiping", "there"] ["board", "last"] (defScope s_led) := ⟨rfl, rfl, rfl, by decide +kernel, rfl, by decide +kernel, by decide +kernel⟩
abbrev s_boards_behind : Stmt := topS 27
theorem sc_boards_behind : FnScope ["board", "many", "line", "turn", "more", "here", "wiping"] ["board", "many"] (defScope s_boards_behind) := ⟨rfl, rfl, rfl, by decide +kernel, rfl, by decide +kernel, by decide +kernel⟩
abbrev s_law_number : Stmt := topS 29
theorem sc_law_number : FnScope ["_law_cell", "_law_at", "_law_whole", "_law_blend", "_law_more"] ["_law_cell", "_law_at", "_law_whole"] (defScope s_law_number) := ⟨rfl, rfl, rfl, by decide +kernel, rfl, by decide +kernel, by decide +kernel⟩
abbrev s_law_board : Stmt := topS 30
theorem sc_law_board : FnScope ["_law_script", "_law_by", "_law_most", "_law_cells", "_law_whole", "_law_wide", "_law_found", "_law_at", "_law_number_here"] ["_law_script", "_law_by", "_law_most"] (defScope s_law_board) := ⟨rfl, rfl, rfl, by decide +kernel, rfl, by decide +kernel, by decide +kernel⟩
abbrev s_law_wiped : Stmt := topS 31
theorem sc_law_wiped : FnScope ["_law_board_here", "_law_pair", "_law_found", "_law_at", "_law_number_here"] ["_law_board_here", "_law_pair"] (defScope s_law_wiped) := ⟨rfl, rfl, rfl, by decide +kernel, rfl, by decide +kernel, by decide +kernel⟩
abbrev s_law_pairs : Stmt := topS 32
theorem sc_law_pairs : FnScope ["_law_many", "_law_found", "_law_other", "_law_one"] ["_law_many"] (defScope s_law_pairs) := ⟨rfl, rfl, rfl, by decide +kernel, rfl, by decide +kernel, by decide +kernel⟩
abbrev s_law_tally : Stmt := topS 33
theorem sc_law_tally : FnScope ["_law_board_here", "_law_line", "_law_turn", "_law_more", "_law_here", "_law_pair", "_law_there", "_law_found"] ["_law_board_here"] (defScope s_law_tally) := ⟨rfl, rfl, rfl, by decide +kernel, rfl, by decide +kernel, by decide +kernel⟩
abbrev s_law_left : Stmt := topS 34
theorem sc_law_left : FnScope ["_law_board_here", "_law_pairs_here", "_law_pair"] ["_law_board_here", "_law_pairs_here"] (defScope s_law_left) := ⟨rfl, rfl, rfl, by decide +kernel, rfl, by decide +kernel, by decide +kernel⟩
abbrev s_law_due : Stmt := topS 35
theorem sc_law_due : FnScope ["_law_board_here", "_law_last", "_law_answer"] ["_law_board_here", "_law_last", "_law_answer"] (defScope s_law_due) := ⟨rfl, rfl, rfl, by decide +kernel, rfl, by decide +kernel, by decide +kernel⟩
abbrev s_law_unlike : Stmt := topS 36
theorem sc_law_unlike : FnScope ["_law_board_here", "_law_many", "_law_rows", "_law_turn", "_law_after", "_law_row", "_law_pair"] ["_law_board_here", "_law_many"] (defScope s_law_unlike) := ⟨rfl, rfl, rfl, by decide +kernel, rfl, by decide +kernel, by decide +kernel⟩
abbrev s_law_right : Stmt := topS 37
theorem sc_law_right : FnScope ["_law_board_here", "_law_whole", "_law_tally_here", "_law_due_here", "_law_pair", "_law_last", "_law_answer", "_law_many"] ["_law_board_here", "_law_whole"] (defScope s_law_right) := ⟨rfl, rfl, rfl, by decide +kernel, rfl, by decide +kernel, by decide +kernel⟩
abbrev s_law_changed : Stmt := topS 38
theorem sc_law_changed : FnScope ["_law_board_here", "_law_whole", "_law_turn", "_law_spot"] ["_law_board_here", "_law_whole", "_law_turn"] (defScope s_law_changed) := ⟨rfl, rfl, rfl, by decide +kernel, rfl, by decide +kernel, by decide +kernel⟩
abbrev s_law : Stmt := topS 39
theorem sc_law : FnScope ["_law_script", "_law_whole", "_law_by", "_law_board_here", "_law_far", "_law_turn", "_law_last", "_law_elder", "_law_older", "_law_some", "_law_one", "_law_answer"] ["_law_script"] (defScope s_law) := ⟨rfl, rfl, rfl, by decide +kernel, rfl, by decide +kernel, by decide +kernel⟩
end Lw

open PySem PySem.Spec PyProof.Rows L2 Evl Lw
local macro_rules | `(tactic| walk_at "rv") => `(tactic| first
  | exact rv_I0
  | exact rv_eq rfl
  | exact rv_ne rfl
  | (refine rv_I ?_; first | (with_reducible assumption) | (with_reducible refine divOk ?_ ?_ <;> omega) | (show (0 : Int) < _; omega))
  | (refine rv_ixL (sq_of (by assumption)) ?_; first | assumption | (apply at_of <;> first | assumption | rfl))
  | (refine rv_ixT (st_of (by assumption)) ?_; first | assumption | rfl)
  | (refine rv_ixL (by assumption) ?_; first | assumption | (apply at_of <;> first | assumption | rfl)))
local macro_rules | `(tactic| walk_at "ev") => `(tactic| first
  | exact ev_c
  | exact ev_var rfl
  | (apply ev_op; (· walk_at "ev"); (· walk_at "ev"); (· walk_at "rv"))
  | (apply ev_lenT; (· walk_at "ev"); (· exact st_of (by assumption)))
  | (apply ev_len; (· walk_at "ev"); (· first | exact sq_of (by assumption) | assumption))
  | (apply ev_abs; walk_at "ev")
  | (apply ev_sum; (· walk_at "ev"); (· first | exact sq_of (by assumption) | assumption))
  | (apply ev_andV; (· walk_at "ev"); (· intro _; walk_at "ev"))
  | (apply ev_orV; (· walk_at "ev"); (· intro _; walk_at "ev"))
  | (apply ev_notV; walk_at "ev")
  | (apply ev_un; (· walk_at "ev"); (· exact ru_neg))
  | (apply ev_chain; (· walk_at "ev"); (· walk_at "ev"); (· walk_at "ev"); (· walk_at "rv"); (· walk_at "rv"))
  | (apply ev_chain3; (· walk_at "ev"); (· walk_at "ev"); (· walk_at "ev"); (· walk_at "ev"); (· walk_at "rv"); (· walk_at "rv"); (· walk_at "rv")))
local macro_rules | `(tactic| walk_at "ea") => `(tactic| first
  | exact ea_nil
  | (apply ea_cons; (· walk_at "ev"); (· walk_at "ea")))
local macro_rules | `(tactic| walk_at "et") => `(tactic| first
  | (apply et_not; walk_at "et")
  | (apply et_and; (· walk_at "et"); (· intro _; walk_at "et"))
  | (apply et_or; (· walk_at "et"); (· intro _; walk_at "et"))
  | (apply et_B; walk_at "ev")
  | (apply et_test; walk_at "ev"))
namespace Lw
section
variable {P : Program} {w : World} {K : PySem.W.Frag} {mg : Str → Option Value} {base : Heap}
/-- a whole number comes -/
def spLawNumber : Sp := fun vs H Q _ => ∃ (c at' wh : Int) (M : Nat), vs = [.int c, .int at', .int wh] ∧ c.natAbs < 2 ^ M ∧ M ≤ 2000000 ∧ 0 ≤ at' ∧ at' ≤ 1000000 ∧ RetX AnyI H Q
theorem ok_law_number {f : Addr} {fd : FuncData} (D : Df K mg "_law_number" s_law_number ["_law_cell", "_law_at", "_law_whole"] f fd) (T : Blt mg) : FnOk P w K mg base CX0 1 f fd ["_law_cell", "_law_at", "_law_whole"] spLawNumber := by
  have ND := sc_law_number.nd
  refine D.F.ok sc_law_number (fun vs H Q E h => ?_) (fun cdv A outer s H vs Q E hr h => ?_)
  · obtain ⟨c, a, wh, M, rfl, _⟩ := h
    rfl
  · obtain ⟨c, a, wh, M, rfl, hc, hM, h0, h1, q⟩ := h
    refine ⟨_, (pss_cons /- 120 -/ (ps_if (pt_cmpR op_ge (pv 0) (pe_op op_pow pe_int pe_int) (nomark _))
        (pss_one /- 121 -/ (ps_ret (pe_op op_fdivW (pv 0) (pe_op op_add pe_int (pe_op op_mod (pv 1) pe_int)))))
        pss_nil)
      (pss_cons /- 122 -/ (ps_set (i := 3) ND rfl (by first | exact .inl rfl | exact .inr rfl) (pe_op op_mod (pe_op op_add (pe_op op_mulZ (pe_op op_add (pv 0) (pe_op op_mulZ pe_int (pv 1))) pe_int) (pv 2)) pe_int))
      (pss_cons /- 123 -/ (ps_set (i := 4) ND rfl (by first | exact .inl rfl | exact .inr rfl) (pe_op op_mulZ (pv 3) (pe_op op_add (pe_op op_add (pv 0) (pe_op op_mulZ pe_int (pv 1))) pe_int)))
      (pss_one /- 124 -/ (ps_ret (pe_op op_fdivW (pe_op op_mulZ (pe_op op_mulZ (pv 4) (pe_op op_add (pe_op op_add (pv 3) (pv 0)) pe_int)) (pe_op op_add (pe_op op_mulZ (pv 3) (pv 3)) pe_int)) (pe_op op_add pe_int (pv 1)))))))), ?_⟩
    have s977 : IntMulOk 977 a := mulOk (a := 10) (b := 20) (by decide) (by omega) (by decide)
    have s31 : IntMulOk 31 a := mulOk (a := 5) (b := 20) (by decide) (by omega) (by decide)
    have hs977 : ((977 : Int) * a).natAbs < 2 ^ 30 := by omega
    have s48 : IntMulOk (c + 977 * a) 48271 := mulOk (sz_add hc hs977) (b := 16) (by decide) (by omega)
    have hb : ∀ x : Int, (x % 2147483647).natAbs < 2 ^ 31 := fun x => by
      have := Int.emod_nonneg x (show (2147483647 : Int) ≠ 0 by decide)
      have := Int.emod_lt_of_pos x (show (0 : Int) < 2147483647 by decide)
      omega
    generalize hbl : ((c + 977 * a) * 48271 + wh) % 2147483647 = bl
    have hbl' : bl.natAbs < 2 ^ 31 := hbl ▸ hb _
    have hs31 : ((31 : Int) * a).natAbs < 2 ^ 25 := by omega
    have sm : (c + 31 * a + 7).natAbs < 2 ^ (M + 25 + 1 + 3 + 1) := sz_add (sz_add hc hs31) (b := 3) (by decide)
    have m1 : IntMulOk bl (c + 31 * a + 7) := mulOk hbl' sm (by omega)
    have sm1 := sz_mul hbl' sm
    have sb : (bl + c + 5).natAbs < 2 ^ (31 + M + 1 + 3 + 1) := sz_add (sz_add hbl' hc) (b := 3) (by decide)
    have m2 : IntMulOk (bl * (c + 31 * a + 7)) (bl + c + 5) := mulOk sm1 sb (by omega)
    have m3 : IntMulOk bl bl := mulOk hbl' hbl' (by decide)
    have sq : (bl * bl + 11).natAbs < 2 ^ (31 + 31 + 4 + 1) := sz_add (sz_mul hbl' hbl') (b := 4) (by decide)
    have m4 : IntMulOk (bl * (c + 31 * a + 7) * (bl + c + 5)) (bl * bl + 11) := mulOk (sz_mul sm1 sb) sq (by omega)
    have hp : CPow 10 18 := by unfold CPow; decide
    have a7 := Int.emod_nonneg a (show (7 : Int) ≠ 0 by decide)
    have a8 := Int.emod_lt_of_pos a (show (0 : Int) < 7 by decide)
    refine q_when (et_test (by walk_at "ev")) (fun _ H1 e1 => ?_) (fun _ H1 e1 => ?_)
    · exact s_ret (by walk_at "ev") fun H2 e2 => q _ H2 (e1.trans e2) ⟨_, rfl⟩
    · refine q_asg (v := .int bl) ?_ fun H2 e2 => ?_
      · refine ev_is ?_ (congrArg V.int hbl)
        walk_at "ev"
      · refine q_asg (v := .int (bl * (c + 31 * a + 7))) ?_ fun H3 e3 => ?_
        · walk_at "ev"
        · exact s_ret (by walk_at "ev") fun H4 e4 => q _ H4 (((e1.trans e2).trans e3).trans e4) ⟨_, rfl⟩
theorem sx_lawNumber {c a wh : Int} {M : Nat} {H : Hp} (hc : c.natAbs < 2 ^ M) (hM : M ≤ 2000000) (h0 : 0 ≤ a) (h1 : a ≤ 1000000) : SpX spLawNumber [.int c, .int a, .int wh] H AnyI := fun H1 e Q q E => ⟨c, a, wh, M, rfl, hc, hM, h0, h1, q⟩
end
end Lw

--@ uses: law_number
namespace Lw
section
variable {P : Program} {w : World} {K : PySem.W.Frag} {mg : Str → Option Value} {base : Heap}
/-- the script: at most 63 whole numbers that the model can lay -/
structure Scr (K : PySem.W.Frag) (H : Hp) (a : Addr) (ns : List Int) : Prop where
  at' : SqL K H a (ns.map V.int)
  len : ns.length ≤ 63
  bits : ∀ z ∈ ns, Builtin.Int.intBits z ≤ 1048576
theorem Scr.mono {H H' : Hp} {a : Addr} {ns : List Int} (e : Ex H H') (h : Scr K H a ns) : Scr K H' a ns := ⟨ex_l e h.at', h.len, h.bits⟩
def NB (most : Int) : Hp → V → Hp → Prop := fun H1 v H2 => ∃ p ns, v = .ref p ∧ H1 p = none ∧ H2 p = some (.lst (ns.map V.int)) ∧ Board ns ∧ (ns.length : Int) ≤ most
theorem back_B {most : Int} : Back (NB most) := fun H1 H2 v H3 e ⟨p, ns, h1, h2, h3⟩ => ⟨p, ns, h1, fresh_back e h2, h3⟩
def spLawBoard (K : PySem.W.Frag) : Sp := fun vs H Q _ => ∃ (a : Addr) (ns : List Int) (by' most : Int), vs = [.ref a, .int by', .int most] ∧ Scr K H a ns ∧ 0 ≤ by' ∧ by' ≤ 1000 ∧ 1 ≤ most ∧ most ≤ 6 ∧ RetX (NB most) H Q
theorem wide_at (r : Int) (h0 : 0 ≤ r) (h1 : r < 4) : ∃ z : Int, atI ([.int 3, .int 9, .int 60, .int 1000001] : List V) r = some (.int z) ∧ 0 < z ∧ z ≤ 1000001 := by
  obtain rfl | rfl | rfl | rfl : r = 0 ∨ r = 1 ∨ r = 2 ∨ r = 3 := by omega
  · exact ⟨3, atI_nat (j := 0) rfl, by decide, by decide⟩
  · exact ⟨9, atI_nat (j := 1) rfl, by decide, by decide⟩
  · exact ⟨60, atI_nat (j := 2) rfl, by decide, by decide⟩
  · exact ⟨1000001, atI_nat (j := 3) rfl, by decide, by decide⟩
theorem ok_law_board {f f1 : Addr} {fd fd1 : FuncData} (D : Df K mg "_law_board" s_law_board ["_law_script", "_law_by", "_law_most"] f fd) (T : Blt mg)
    (o_law_number : Ok P w K mg base CX0 1 "_law_number" s_law_number ["_law_cell", "_law_at", "_law_whole"] spLawNumber f1 fd1) : FnOk P w K mg base CX0 2 f fd ["_law_script", "_law_by", "_law_most"] (spLawBoard K) := by
  have ND := sc_law_board.nd
  refine D.F.ok sc_law_board (fun vs H Q E h => ?_) (fun cdv A outer s H vs Q E hr h => ?_)
  · obtain ⟨a, ns, b, m, rfl, _⟩ := h
    rfl
  · obtain ⟨a, ns, b, most, rfl, S, b0, b1, m0, m1, q⟩ := h
    refine ⟨_, (pss_cons /- 126 -/ (ps_set (i := 3) ND rfl (by first | exact .inl rfl | exact .inr rfl) (pe_ifExp (pt_cmpR (kNeD (K := K) rfl hr.units) (pv 0) (pe_lst pa_nil) (nomark _)) (pe_slice (kSl (K := K) rfl) (pv 0) po_none (po_some pe_int)) (pe_lst (pa_cons pe_int pa_nil))))
      (pss_cons /- 127 -/ (ps_set (i := 4) ND rfl (by first | exact .inl rfl | exact .inr rfl) (pe_op op_add (pe_callB kAbs (by rfl) T.abs (by decide +kernel) (pa_cons (pe_callB (kSum (K := K) rfl rfl) (by rfl) T.sum (by decide +kernel) (pa_cons (pv 3) pa_nil)) pa_nil)) (pv 1)))
      (pss_cons /- 128 -/ (ps_par (i := 5) (j := 6) (by rfl) ND rfl rfl (by decide) rfl rfl (pa_cons (pe_ix (kIxT (K := K) rfl) (pe_tup (pa_cons pe_int (pa_cons pe_int (pa_cons pe_int (pa_cons pe_int pa_nil))))) (pe_op op_mod (pe_op op_fdivW (pv 4) pe_int) pe_int) (fun _ _ => rfl)) (pa_cons (pe_lst pa_nil) pa_nil)) (by rfl))
      (pss_cons /- 129 -/ (ps_for PassesOwn.never rfl (pi_range1 (by rfl) T.range (pa_cons (pe_op op_add pe_int (pe_op op_mod (pv 4) (pv 2))) pa_nil)) (pg_name (i := 7) ND rfl (by first | exact .inl rfl | exact .inr rfl))
        (pss_cons /- 130 -/ (ps_set (i := 8) ND rfl (by first | exact .inl rfl | exact .inr rfl) (pe_op op_fdivW (pe_call o_law_number.G (hr.mono (by first | decide | omega)) rfl o_law_number.D.g o_law_number.D.F.kp o_law_number.D.b .nil pass0 (pa_cons (pe_ix (kIxL (K := K) rfl) (pv 3) (pe_op op_mod (pe_op op_add (pv 7) (pv 1)) (pe_callB (kLen (K := K) rfl) (by rfl) T.len PySem.boot_len (pa_cons (pv 3) pa_nil))) (fun _ _ => rfl)) (pa_cons (pe_op op_add (pv 7) (pv 1)) (pa_cons (pv 4) pa_nil)))) pe_int))
        (pss_one /- 131 -/ (ps_expr (pe_bm PySem.F.plainAttrs_list PySem.F.slot_list_append PySem.F.type_list_append mt_append (pv 6) (pa_cons (pe_op op_mod (pv 8) (pv 5)) pa_nil))))))
      (pss_one /- 132 -/ (ps_ret (pv 6))))))), ?_⟩
    obtain ⟨cs, hcs, c1, c2, c3⟩ : ∃ cs : List Int, cs = (if ns = [] then [5] else ns) ∧ 1 ≤ cs.length ∧ cs.length ≤ 63 ∧ ∀ z ∈ cs, Builtin.Int.intBits z ≤ 1048576 := by
      refine ⟨_, rfl, ?_⟩
      by_cases h : ns = []
      · rw [if_pos h]
        exact ⟨by decide, by decide, fun z hz => by rw [List.mem_singleton.mp hz]; decide⟩
      · rw [if_neg h]
        exact ⟨List.length_pos_iff.mpr h, S.len, S.bits⟩
    have hl : (cs.map V.int).length = cs.length := List.length_map _
    refine q_asgL (xs := cs.map V.int) ?_ fun p H1 hp e1 h1 => ?_
    · refine el_if (b := !decide (ns = [])) (et_test (ev_neD (ed_v (ev_var rfl) (at_ints S.at')) (ed_l (ns := []) (el_lst ea_nil (by decide))))) (fun hb => ?_) (fun hb => ?_)
      · rw [hcs, if_neg (nd_t hb)]
        refine el_is (el_sl (ev_var rfl) eo_none (eo_some ev_c) S.at') ?_
        exact cut_all (n := 63) (by rw [List.length_map]; exact S.len)
      · rw [hcs, if_pos (nd_f hb)]
        exact el_lst (ea_cons ev_c ea_nil) (show 1 ≤ 100000 by decide)
    · refine q_asg (v := .int ((cs.sum.natAbs : Int) + b)) (ev_op (ev_abs (ev_sum (ev_var rfl) (sq_of h1))) (ev_var rfl) rv_I0) fun H2 e2 => ?_
      generalize (cs.sum.natAbs : Int) + b = whole
      obtain ⟨wd, hw, w0, w1⟩ := wide_at (whole / 3 % 4) (Int.emod_nonneg _ (by decide)) (Int.emod_lt_of_pos _ (by decide))
      refine q_parVL (v := .int wd) (ev_ixNT (eu_tup (ea_cons ev_c (ea_cons ev_c (ea_cons ev_c (ea_cons ev_c ea_nil)))) (show 4 ≤ 100000 by decide)) (by walk_at "ev") hw) (el_lst ea_nil (by decide)) fun r H3 hr' e3 h3 => ?_
      have g0 := Int.emod_nonneg whole (show most ≠ 0 by omega)
      have g1 := Int.emod_lt_of_pos whole (show 0 < most by omega)
      have hp2 := e2 _ _ h1
      refine q_forR1 (n := 1 + whole % most) (ea_cons (by walk_at "ev") ea_nil) (by omega) (fun m σ' H' => ∃ y7 y8 bs, σ' = [some (.ref a), some (.int b), some (.int most), some (.ref p), some (.int whole), some (.int wd), some (.ref r), y7, y8] ∧ Ex H2 H' ∧ H' r = some (.lst (bs.map V.int)) ∧ bs.length = m ∧ ∀ x ∈ bs, 0 ≤ x ∧ x ≤ 1000000)
        (fun H4 e4 => ⟨none, none, [], rfl, e3.trans e4, e4 _ _ h3, rfl, fun x hx => by cases hx⟩) (fun m σ' H' hm ⟨y7, y8, bs, hs, e, hb, hbl, hbm⟩ => ?_) (fun σ' H' ⟨y7, y8, bs, hs, e, hb, hbl, hbm⟩ => ?_)
      · subst hs
        have z0 := Int.emod_nonneg ((m : Int) + b) (show (cs.length : Int) ≠ 0 by omega)
        have z1 := Int.emod_lt_of_pos ((m : Int) + b) (show 0 < (cs.length : Int) by omega)
        obtain ⟨c, hc, hcb⟩ : ∃ c : Int, atI (cs.map V.int) (((m : Int) + b) % (((cs.map V.int).length : Nat) : Int)) = some (.int c) ∧ Builtin.Int.intBits c ≤ 1048576 := by
          rw [hl]
          exact ⟨_, at_int_i z0 z1, c3 _ (getD_mem (by omega))⟩
        have hpe := e _ _ hp2
        have lpos : (0 : Int) < (((cs.map V.int).length : Nat) : Int) := by rw [hl]; omega
        refine q_asgX (R := AnyI) (ex_opI back_I (ex_call back_I (ea_cons (ev_op (ev_var rfl) (ev_op (ev_op (ev_var rfl) (ev_var rfl) rv_I0) (ev_len (ev_var rfl) (sq_of hpe)) (rv_I lpos)) (rv_ixL (sq_of hpe) hc)) (ea_cons (ev_op (ev_var rfl) (ev_var rfl) rv_I0) (ea_cons (ev_var rfl) ea_nil))) (sx_lawNumber (M := Builtin.Int.intBits c) sz_bits (by omega) (by omega) (by omega))) ev_c fun z => ⟨_, rv_I (divOk (by decide) (by decide)), fun _ _ => ⟨_, rfl⟩⟩) fun v H5 e5 ⟨z, hz⟩ => ?_
        · subst hz
          have k0 := Int.emod_nonneg z (show wd ≠ 0 by omega)
          have k1 := Int.emod_lt_of_pos z (show 0 < wd by omega)
          refine s_app (l := r) (v := .int (z % wd)) (e5 _ _ hb) (ev_var rfl) (ev_op (ev_var rfl) (ev_var rfl) (rv_I w0)) ?_ fun H6 e6 => ⟨_, _, bs ++ [z % wd], rfl, Ex.mut ((e.trans e5).trans e6) hr', ?_, ?_, ?_⟩
          · rw [List.length_map]
            omega
          · rw [upd_same, List.map_append]
            rfl
          · rw [List.length_append, hbl]
            rfl
          · intro x hx
            rcases List.mem_append.mp hx with hx | hx
            · exact hbm x hx
            · rw [List.mem_singleton.mp hx]
              omega
      · subst hs
        refine s_ret (ev_var rfl) fun H6 e6 => q _ H6 (((e1.trans e2).trans e).trans e6) ⟨r, bs, rfl, fresh_back (e1.trans e2) hr', e6 _ _ hb, ⟨by omega, by omega, hbm⟩, by omega⟩
theorem sx_lawBoard {a : Addr} {ns : List Int} {b most : Int} {H : Hp} (S : Scr K H a ns) (b0 : 0 ≤ b) (b1 : b ≤ 1000) (m0 : 1 ≤ most) (m1 : most ≤ 6) : SpX (spLawBoard K) [.ref a, .int b, .int most] H (NB most) := fun H1 e Q q E => ⟨a, ns, b, most, rfl, S.mono e, b0, b1, m0, m1, q⟩
end
end Lw

--@ uses: law_board
namespace Lw
def spLaw (K : PySem.W.Frag) : Sp := fun vs H Q _ => ∃ (a : Addr) (ns : List Int), vs = [.ref a] ∧ Scr K H a ns ∧ RetV (.bl true) H Q
section
variable {K : PySem.W.Frag} {σ : L2.St} {H : Hp} {te tb : TE}
/-- abs(sum(script[:63])) -/
theorem ev_whole {a : Addr} {ns : List Int} (h : Ev te σ H (.ref a)) (S : Scr K H a ns) (hb : Ev tb σ H (.int 63)) : Ev (tCB rAbs (tCons (tCB (rSum K) (tCons (tSl (rSlL K) te tNoPart (tPart tb)) tNil)) tNil)) σ H (.int (ns.sum.natAbs : Int)) := by
  refine ev_abs (ev_sumN (el_is (el_sl h eo_none (eo_some hb) S.at') ?_))
  exact cut_all (n := 63) (by rw [List.length_map]; exact S.len)
end
end Lw

namespace Lw
/-! ### the board behind a wiping -/
def keepAt (i j : Int) : Nat → List Int → List Int
  | _, [] => []
  | k, x :: r => if (k : Int) = i ∨ (k : Int) = j then keepAt i j (k + 1) r else x :: keepAt i j (k + 1) r
def wp (ns : List Int) (i j : Int) : List Int := keepAt i j 0 ns ++ [((ns.getD i.toNat 0 - ns.getD j.toNat 0).natAbs : Int)]
theorem keepAt_append (i j : Int) (x : Int) : ∀ (l : List Int) (k : Nat), keepAt i j k (l ++ [x]) = keepAt i j k l ++ (if ((k + l.length : Nat) : Int) = i ∨ ((k + l.length : Nat) : Int) = j then [] else [x])
  | [], k => by
    show keepAt i j k [x] = _
    unfold keepAt keepAt
    rw [List.length_nil, Nat.add_zero]
    split <;> simp [keepAt]
  | y :: r, k => by
    have ih := keepAt_append i j x r (k + 1)
    rw [List.cons_append]
    unfold keepAt
    rw [ih, List.length_cons, show k + 1 + r.length = k + (r.length + 1) by omega]
    by_cases h : (k : Int) = i ∨ (k : Int) = j
    · simp only [if_pos h]
    · simp only [if_neg h, List.cons_append]
theorem keepAt_range (i j : Int) : ∀ (l : List Int) (k : Nat), (((List.range l.length).filter fun m => !decide (((m + k : Nat) : Int) = i ∨ ((m + k : Nat) : Int) = j)).map fun m => l.getD m 0) = keepAt i j k l
  | [], _ => rfl
  | x :: r, k => by
    have ih := keepAt_range i j r (k + 1)
    rw [List.length_cons, List.range_succ_eq_map, List.filter_cons, List.filter_map]
    unfold keepAt
    have e : ((List.filter ((fun m : Nat => !decide (((m + k : Nat) : Int) = i ∨ ((m + k : Nat) : Int) = j)) ∘ Nat.succ) (List.range r.length)).map Nat.succ).map (fun m => (x :: r).getD m 0) = keepAt i j (k + 1) r := by
      rw [List.map_map, ← ih]
      have e1 : ((fun m : Nat => !decide (((m + k : Nat) : Int) = i ∨ ((m + k : Nat) : Int) = j)) ∘ Nat.succ) = fun m : Nat => !decide (((m + (k + 1) : Nat) : Int) = i ∨ ((m + (k + 1) : Nat) : Int) = j) := by
        funext m
        show (!decide (((m.succ + k : Nat) : Int) = i ∨ ((m.succ + k : Nat) : Int) = j)) = _
        rw [show m.succ + k = m + (k + 1) by omega]
      rw [e1]
      rfl
    rw [Nat.zero_add]
    by_cases h : (k : Int) = i ∨ (k : Int) = j
    · rw [if_neg (by simp [h]), if_pos h]
      exact e
    · rw [if_pos (by simp [h]), if_neg h, List.map_cons, e]
      rfl
theorem keepAt_len_le (i j : Int) : ∀ (l : List Int) (k : Nat), (keepAt i j k l).length ≤ l.length
  | [], _ => Nat.le_refl _
  | x :: r, k => by
    have ih := keepAt_len_le i j r (k + 1)
    unfold keepAt
    split <;> simp only [List.length_cons] <;> omega
theorem keepAt_mem {i j x : Int} : ∀ {l : List Int} {k : Nat}, x ∈ keepAt i j k l → x ∈ l
  | [], _, h => by cases h
  | y :: r, k, h => by
    unfold keepAt at h
    split at h
    · exact List.mem_cons_of_mem _ (keepAt_mem h)
    · rcases List.mem_cons.mp h with h | h
      · rw [h]; exact List.mem_cons_self
      · exact List.mem_cons_of_mem _ (keepAt_mem h)
/-- nothing is taken out behind j -/
theorem keepAt_all {i j : Int} : ∀ (l : List Int) (k : Nat), i < k → j < k → keepAt i j k l = l
  | [], _, _, _ => rfl
  | x :: r, k, hi, hj => by
    unfold keepAt
    rw [if_neg (by omega), keepAt_all r (k + 1) (by omega) (by omega)]
/-- one taken out -/
theorem keepAt_one {i : Int} : ∀ (l : List Int) (k : Nat) (j : Int), i < k → k ≤ j → j < k + l.length → keepAt i j k l = l.eraseIdx (j - k).toNat
  | [], k, j, _, h1, h2 => by simp at h2; omega
  | x :: r, k, j, hi, h1, h2 => by
    rw [List.length_cons] at h2
    unfold keepAt
    by_cases h : (k : Int) = j
    · rw [if_pos (Or.inr h), keepAt_all r (k + 1) (by omega) (by omega), show (j - k).toNat = 0 by omega]
      rfl
    · rw [if_neg (by omega), keepAt_one r (k + 1) j (by omega) (by omega) (by omega), show (j - k).toNat = (j - ((k + 1 : Nat) : Int)).toNat + 1 by omega]
      rfl
theorem keepAt_two : ∀ (l : List Int) (k : Nat) (i j : Int), k ≤ i → i < j → j < k + l.length → keepAt i j k l = (l.eraseIdx (j - k).toNat).eraseIdx (i - k).toNat
  | [], k, i, j, h0, h1, h2 => by simp at h2; omega
  | x :: r, k, i, j, h0, h1, h2 => by
    rw [List.length_cons] at h2
    unfold keepAt
    by_cases h : (k : Int) = i
    · rw [if_pos (Or.inl h), keepAt_one r (k + 1) j (by omega) (by omega) (by omega), show (i - k).toNat = 0 by omega, show (j - k).toNat = (j - ((k + 1 : Nat) : Int)).toNat + 1 by omega]
      rfl
    · rw [if_neg (by omega), keepAt_two r (k + 1) i j (by omega) (by omega) (by omega), show (i - k).toNat = (i - ((k + 1 : Nat) : Int)).toNat + 1 by omega, show (j - k).toNat = (j - ((k + 1 : Nat) : Int)).toNat + 1 by omega]
      rfl
theorem wp_eq {ns : List Int} {i j : Int} (h0 : 0 ≤ i) (h1 : i < j) (h2 : j < ns.length) : wp ns i j = (ns.eraseIdx j.toNat).eraseIdx i.toNat ++ [((ns.getD i.toNat 0 - ns.getD j.toNat 0).natAbs : Int)] := by
  unfold wp
  rw [keepAt_two ns 0 i j (by omega) h1 (by omega)]
  rw [show (i - ((0 : Nat) : Int)).toNat = i.toNat by omega, show (j - ((0 : Nat) : Int)).toNat = j.toNat by omega]
theorem wp_len {ns : List Int} {i j : Int} (h0 : 0 ≤ i) (h1 : i < j) (h2 : j < ns.length) : (wp ns i j).length + 1 = ns.length := by
  rw [wp_eq h0 h1 h2, List.length_append, List.length_singleton, List.length_eraseIdx_of_lt (by rw [List.length_eraseIdx_of_lt (by omega)]; omega), List.length_eraseIdx_of_lt (by omega)]
  omega
theorem getD_mem {ns : List Int} {i : Nat} (h : i < ns.length) : ns.getD i 0 ∈ ns := by
  rw [List.getD_eq_getElem?_getD, List.getElem?_eq_getElem h]
  exact List.getElem_mem h
/-- nothing grows, nothing falls below 0 -/
theorem wp_bound {ns : List Int} {i j m : Int} (h0 : 0 ≤ i) (h1 : i < j) (h2 : j < ns.length) (hm : ∀ x ∈ ns, 0 ≤ x ∧ x ≤ m) : ∀ x ∈ wp ns i j, 0 ≤ x ∧ x ≤ m := by
  intro x hx
  unfold wp at hx
  rcases List.mem_append.mp hx with hx | hx
  · exact hm x (keepAt_mem hx)
  · rw [List.mem_singleton] at hx
    have a := hm _ (getD_mem (ns := ns) (i := i.toNat) (by omega))
    have b := hm _ (getD_mem (ns := ns) (i := j.toNat) (by omega))
    omega
/-- even or odd as before -/
theorem sum_eraseIdx : ∀ (l : List Int) (i : Nat), i < l.length → (l.eraseIdx i).sum = l.sum - l.getD i 0
  | [], i, h => by simp at h
  | x :: r, 0, _ => by
    show r.sum = (x :: r).sum - x
    rw [List.sum_cons]
    omega
  | x :: r, i + 1, h => by
    have ih := sum_eraseIdx r i (by simpa using h)
    show (x :: r.eraseIdx i).sum = (x :: r).sum - r.getD i 0
    rw [List.sum_cons, List.sum_cons, ih]
    omega
theorem getD_eraseIdx_lt {l : List Int} {i j : Nat} (h : i < j) : (l.eraseIdx j).getD i 0 = l.getD i 0 := by
  rw [List.getD_eq_getElem?_getD, List.getD_eq_getElem?_getD, List.getElem?_eraseIdx_of_lt h]
theorem wp_sum {ns : List Int} {i j : Int} (h0 : 0 ≤ i) (h1 : i < j) (h2 : j < ns.length) : (wp ns i j).sum % 2 = ns.sum % 2 := by
  rw [wp_eq h0 h1 h2, List.sum_append, sum_eraseIdx _ _ (by rw [List.length_eraseIdx_of_lt (by omega)]; omega), sum_eraseIdx _ _ (by omega), getD_eraseIdx_lt (by omega)]
  simp only [List.sum_cons, List.sum_nil]
  omega
end Lw

namespace Lw
/-! ### all wipings of so many places, in order -/
def pairsRaw (n : Nat) : List (Int × Int) := (List.range n).flatMap fun j => (List.range j).map fun (i : Nat) => ((i : Int), (j : Int))
def pairsOf (n : Nat) : List (Int × Int) := (List.range n).flatMap fun (i : Nat) => (List.range (n - (i + 1))).map fun (k : Nat) => ((i : Int), (i : Int) + 1 + (k : Int))
theorem pairs_six : ∀ n, n ≤ 6 → (pairsOf n).Perm (pairsRaw n) ∧ (pairsOf n).Pairwise lexLe := by
  intro n h
  rcases n with _ | _ | _ | _ | _ | _ | _ | n
  all_goals first | exact ⟨by decide, by decide⟩ | (exfalso; omega)
theorem pairs_mem {n : Nat} {p : Int × Int} (h : p ∈ pairsOf n) : 0 ≤ p.1 ∧ p.1 < p.2 ∧ p.2 < n := by
  unfold pairsOf at h
  obtain ⟨i, hi, h⟩ := List.mem_flatMap.mp h
  obtain ⟨k, hk, rfl⟩ := List.mem_map.mp h
  have := List.mem_range.mp hi
  have := List.mem_range.mp hk
  show 0 ≤ (i : Int) ∧ (i : Int) < (i : Int) + 1 + k ∧ (i : Int) + 1 + k < n
  omega
theorem mem_pairs {n : Nat} {i j : Int} (h0 : 0 ≤ i) (h1 : i < j) (h2 : j < n) : (i, j) ∈ pairsOf n := by
  unfold pairsOf
  refine List.mem_flatMap.mpr ⟨i.toNat, List.mem_range.mpr (by omega), List.mem_map.mpr ⟨(j - i - 1).toNat, List.mem_range.mpr (by omega), Prod.ext ?_ ?_⟩⟩
  · show ((i.toNat : Nat) : Int) = i
    omega
  · show ((i.toNat : Nat) : Int) + 1 + (((j - i - 1).toNat : Nat) : Int) = j
    omega
theorem pairs_len_six {n : Nat} (h : n ≤ 6) : (pairsOf n).length ≤ 15 := by
  rcases n with _ | _ | _ | _ | _ | _ | _ | n
  all_goals first | decide | (exfalso; omega)
theorem flatMap_cg {α β : Type} {f g : α → List β} : ∀ {l : List α}, (∀ x ∈ l, f x = g x) → l.flatMap f = l.flatMap g
  | [], _ => rfl
  | x :: l, h => by
    rw [List.flatMap_cons, List.flatMap_cons, h x List.mem_cons_self, flatMap_cg fun y hy => h y (List.mem_cons_of_mem _ hy)]
theorem pairs_succ (n : Nat) : pairsOf (n + 1) = ((List.range n).map fun (k : Nat) => ((0 : Int), 1 + (k : Int))) ++ (pairsOf n).map fun p => (p.1 + 1, p.2 + 1) := by
  unfold pairsOf
  rw [List.range_succ_eq_map, List.flatMap_cons, List.flatMap_map, List.map_flatMap]
  have e0 : (List.range (n + 1 - (0 + 1))).map (fun (k : Nat) => (((0 : Nat) : Int), ((0 : Nat) : Int) + 1 + (k : Int))) = (List.range n).map fun (k : Nat) => ((0 : Int), 1 + (k : Int)) := by
    rw [show n + 1 - (0 + 1) = n by omega]
    exact List.map_congr_left fun k _ => Prod.ext rfl (by show ((0 : Nat) : Int) + 1 + (k : Int) = 1 + (k : Int); omega)
  rw [e0]
  refine congrArg _ (flatMap_cg fun i hi => ?_)
  rw [List.map_map, show n + 1 - (i.succ + 1) = n - (i + 1) by omega]
  refine List.map_congr_left fun k hk => ?_
  exact Prod.ext (by show ((i + 1 : Nat) : Int) = (i : Int) + 1; omega) (by show ((i + 1 : Nat) : Int) + 1 + (k : Int) = (i : Int) + 1 + (k : Int) + 1; omega)
end Lw

--@ uses: math_wp math_pairs
namespace Lw
/-! ### in how many ways a number is left -/
def ways : Nat → List Int → Int → Nat
  | 0, b, x => if b = [x] then 1 else 0
  | n + 1, b, x => ((pairsOf b.length).map fun p => ways n (wp b p.1 p.2) x).sum
def PermInv (f : List Int → Nat) : Prop := ∀ l m, l.Perm m → f l = f m
def sumT (f : List Int → Nat) (a : Int) (t : List Int) : Nat := ((List.range t.length).map fun k => f (t.eraseIdx k ++ [((a - t.getD k 0).natAbs : Int)])).sum
def sumS (f : List Int → Nat) (b : List Int) : Nat := ((pairsOf b.length).map fun p => f (wp b p.1 p.2)).sum
theorem sumT_cons (f : List Int → Nat) (a b : Int) (t : List Int) : sumT f a (b :: t) = f (t ++ [((a - b).natAbs : Int)]) + sumT (fun l => f (b :: l)) a t := by
  unfold sumT
  rw [List.length_cons, List.range_succ_eq_map, List.map_cons, List.sum_cons, List.map_map]
  rfl
theorem wp_zero (a : Int) (t : List Int) (k : Nat) (h : k < t.length) : wp (a :: t) 0 (1 + (k : Int)) = t.eraseIdx k ++ [((a - t.getD k 0).natAbs : Int)] := by
  rw [wp_eq (by omega) (by omega) (by rw [List.length_cons]; omega)]
  rw [show (1 + (k : Int)).toNat = k + 1 by omega]
  rfl
theorem wp_succ (a : Int) (t : List Int) (i j : Int) (h0 : 0 ≤ i) (h1 : i < j) (h2 : j < t.length) : wp (a :: t) (i + 1) (j + 1) = a :: wp t i j := by
  rw [wp_eq (by omega) (by omega) (by rw [List.length_cons]; omega), wp_eq h0 h1 h2]
  rw [show (i + 1).toNat = i.toNat + 1 by omega, show (j + 1).toNat = j.toNat + 1 by omega]
  rfl
theorem sumS_cons (f : List Int → Nat) (a : Int) (t : List Int) : sumS f (a :: t) = sumT f a t + sumS (fun l => f (a :: l)) t := by
  unfold sumS sumT
  rw [List.length_cons, pairs_succ, List.map_append, List.sum_append, List.map_map, List.map_map]
  congr 1
  · congr 1
    refine List.map_congr_left fun k hk => ?_
    exact congrArg f (wp_zero a t k (List.mem_range.mp hk))
  · congr 1
    refine List.map_congr_left fun p hp => ?_
    obtain ⟨h0, h1, h2⟩ := pairs_mem hp
    exact congrArg f (wp_succ a t p.1 p.2 h0 h1 h2)
theorem PermInv.cons {f : List Int → Nat} (h : PermInv f) (a : Int) : PermInv fun l => f (a :: l) := fun l m p => h _ _ (p.cons a)
theorem sumT_perm : ∀ {t t' : List Int}, t.Perm t' → ∀ (f : List Int → Nat) (a : Int), PermInv f → sumT f a t = sumT f a t' := by
  intro t t' p
  induction p with
  | nil => intro f a _; rfl
  | cons x p ih =>
    intro f a hf
    rw [sumT_cons, sumT_cons, ih _ a (hf.cons x), hf _ _ (p.append_right _)]
  | swap x y l =>
    intro f a hf
    rw [sumT_cons, sumT_cons, sumT_cons, sumT_cons]
    have e : (fun k => f (x :: y :: k)) = fun k => f (y :: x :: k) := funext fun k => hf _ _ (List.Perm.swap y x k)
    rw [e]
    simp only [List.cons_append]
    omega
  | trans _ _ ih1 ih2 =>
    intro f a hf
    rw [ih1 f a hf, ih2 f a hf]
theorem sumS_perm : ∀ {t t' : List Int}, t.Perm t' → ∀ (f : List Int → Nat), PermInv f → sumS f t = sumS f t' := by
  intro t t' p
  induction p with
  | nil => intro f _; rfl
  | cons x p ih =>
    intro f hf
    rw [sumS_cons, sumS_cons, ih _ (hf.cons x), sumT_perm p f x hf]
  | swap x y l =>
    intro f hf
    rw [sumS_cons, sumS_cons, sumS_cons, sumS_cons, sumT_cons, sumT_cons]
    have e : (fun k => f (x :: y :: k)) = fun k => f (y :: x :: k) := funext fun k => hf _ _ (List.Perm.swap y x k)
    have e2 : ((y - x).natAbs : Int) = ((x - y).natAbs : Int) := by omega
    rw [e, e2]
    omega
  | trans _ _ ih1 ih2 =>
    intro f hf
    rw [ih1 f hf, ih2 f hf]
theorem ways_perm : ∀ (n : Nat) (x : Int), PermInv fun b => ways n b x
  | 0, x => fun l m p => by
    show (if l = [x] then 1 else 0) = if m = [x] then 1 else 0
    have e : (l = [x]) ↔ (m = [x]) := ⟨fun h => by rw [h] at p; exact List.perm_singleton.mp p.symm, fun h => by rw [h] at p; exact List.perm_singleton.mp p⟩
    by_cases h : l = [x]
    · rw [if_pos h, if_pos (e.mp h)]
    · rw [if_neg h, if_neg fun z => h (e.mpr z)]
  | n + 1, x => fun l m p => sumS_perm p _ (ways_perm n x)
theorem sum_ne {l : List Nat} (h : l.sum ≠ 0) : ∃ y ∈ l, y ≠ 0 := by
  induction l with
  | nil => exact absurd rfl h
  | cons a l ih =>
    rw [List.sum_cons] at h
    by_cases ha : a = 0
    · obtain ⟨y, hy, h2⟩ := ih (by omega)
      exact ⟨y, List.mem_cons_of_mem _ hy, h2⟩
    · exact ⟨a, List.mem_cons_self, ha⟩
theorem le_sum {l : List Nat} {y : Nat} (h : y ∈ l) : y ≤ l.sum := by
  induction l with
  | nil => cases h
  | cons a l ih =>
    rw [List.sum_cons]
    rcases List.mem_cons.mp h with e | h
    · omega
    · have := ih h
      omega
/-- some wiping ahead -/
theorem ways_step {n : Nat} {b : List Int} {x : Int} : ways (n + 1) b x ≠ 0 ↔ ∃ p ∈ pairsOf b.length, ways n (wp b p.1 p.2) x ≠ 0 := by
  constructor
  · intro h
    obtain ⟨y, hy, h2⟩ := sum_ne h
    obtain ⟨p, hp, rfl⟩ := List.mem_map.mp hy
    exact ⟨p, hp, h2⟩
  · rintro ⟨p, hp, h⟩
    have := le_sum (List.mem_map.mpr ⟨p, hp, rfl⟩ : ways n (wp b p.1 p.2) x ∈ (pairsOf b.length).map fun p => ways n (wp b p.1 p.2) x)
    show ((pairsOf b.length).map fun p => ways n (wp b p.1 p.2) x).sum ≠ 0
    omega
theorem ways_range {m : Int} : ∀ {n : Nat} {b : List Int} {x : Int}, (∀ y ∈ b, 0 ≤ y ∧ y ≤ m) → ways n b x ≠ 0 → 0 ≤ x ∧ x ≤ m
  | 0, b, x, hb, h => by
    have e : b = [x] := by
      by_cases e : b = [x]
      · exact e
      · exact absurd (if_neg e) h
    rw [e] at hb
    exact hb x List.mem_cons_self
  | n + 1, b, x, hb, h => by
    obtain ⟨p, hp, h2⟩ := ways_step.mp h
    obtain ⟨h0, h1, h3⟩ := pairs_mem hp
    exact ways_range (wp_bound h0 h1 h3 hb) h2
theorem ways_odd : ∀ {n : Nat} {b : List Int} {x : Int}, ways n b x ≠ 0 → x % 2 = b.sum % 2
  | 0, b, x, h => by
    have e : b = [x] := by
      by_cases e : b = [x]
      · exact e
      · exact absurd (if_neg e) h
    rw [e]
    simp
  | n + 1, b, x, h => by
    obtain ⟨p, hp, h2⟩ := ways_step.mp h
    obtain ⟨h0, h1, h3⟩ := pairs_mem hp
    rw [ways_odd h2, wp_sum h0 h1 h3]
theorem ways_some : ∀ {n : Nat} {b : List Int}, b.length = n + 1 → ∃ x, ways n b x ≠ 0
  | 0, b, h => by
    obtain ⟨x, rfl⟩ := List.length_eq_one_iff.mp h
    exact ⟨x, by show (if [x] = [x] then 1 else 0) ≠ 0; rw [if_pos rfl]; decide⟩
  | n + 1, b, h => by
    have hp : ((0 : Int), (1 : Int)) ∈ pairsOf b.length := mem_pairs (by decide) (by decide) (by omega)
    obtain ⟨x, hx⟩ := ways_some (n := n) (b := wp b 0 1) (by have := wp_len (ns := b) (i := 0) (j := 1) (by decide) (by decide) (by omega); omega)
    exact ⟨x, ways_step.mpr ⟨_, hp, hx⟩⟩
def wys (b : List Int) (x : Int) : Nat := ways (b.length - 1) b x
theorem wys_perm {b c : List Int} (h : b.Perm c) (x : Int) : wys b x = wys c x := by
  unfold wys
  rw [h.length_eq]
  exact ways_perm _ x _ _ h
theorem wys_step {b : List Int} (h : 2 ≤ b.length) (x : Int) : wys b x = ((pairsOf b.length).map fun p => wys (wp b p.1 p.2) x).sum := by
  unfold wys
  obtain ⟨n, hn⟩ : ∃ n, b.length = n + 2 := ⟨b.length - 2, by omega⟩
  rw [hn]
  show ((pairsOf b.length).map fun p => ways n (wp b p.1 p.2) x).sum = _
  rw [hn]
  congr 1
  refine List.map_congr_left fun p hp => ?_
  obtain ⟨h0, h1, h2⟩ := pairs_mem hp
  have := wp_len (ns := b) h0 h1 (by omega)
  rw [show (wp b p.1 p.2).length - 1 = n by omega]
end Lw

--@ uses: math_ways
namespace Lw
open PySem PySem.Spec PyProof.Rows L2 Evl
/-! ### a dict of counts -/
theorem keys_putK {κ : Type} [DecidableEq κ] (kvs : List (κ × V)) (k : κ) (v : V) : (putK kvs k v).map (·.1) = if k ∈ kvs.map (·.1) then kvs.map (·.1) else kvs.map (·.1) ++ [k] := by
  unfold putK
  have e : (kvs.any fun kv => decide (kv.1 = k)) = true ↔ k ∈ kvs.map (·.1) := by
    rw [List.any_eq_true, List.mem_map]
    exact ⟨fun ⟨x, h1, h2⟩ => ⟨x, h1, of_decide_eq_true h2⟩, fun ⟨x, h1, h2⟩ => ⟨x, h1, decide_eq_true h2⟩⟩
  by_cases h : k ∈ kvs.map (·.1)
  · rw [if_pos h, if_pos (e.mpr h), List.map_map]
    refine List.map_congr_left fun x _ => ?_
    show (if x.1 = k then (x.1, v) else x).1 = x.1
    split <;> rfl
  · rw [if_neg h, if_neg fun z => h (e.mp z), List.map_append]
    rfl
theorem nodup_putK {κ : Type} [DecidableEq κ] {kvs : List (κ × V)} {k : κ} {v : V} (h : (kvs.map (·.1)).Nodup) : ((putK kvs k v).map (·.1)).Nodup := by
  rw [keys_putK]
  split
  · exact h
  · rename_i hk
    exact nd_snoc h hk
structure Cnt (kvs : List (L2.Key × V)) (f : Int → Nat) : Prop where
  nd : (kvs.map (·.1)).Nodup
  key : ∀ k ∈ kvs.map (·.1), ∃ x : Int, k = Sum.inl x
  val : ∀ x : Int, valV kvs (Sum.inl x : L2.Key) = if f x = 0 then none else some (.int (f x))
theorem Cnt.nil : Cnt [] (fun _ => 0) := ⟨List.nodup_nil, (fun k h => by cases h), (fun x => by rw [if_pos rfl]; rfl)⟩
theorem Cnt.congr {kvs : List (L2.Key × V)} {f g : Int → Nat} (h : Cnt kvs f) (e : ∀ x, f x = g x) : Cnt kvs g := ⟨h.nd, h.key, fun x => by rw [h.val, e]⟩
theorem Cnt.put {kvs : List (L2.Key × V)} {f : Int → Nat} (h : Cnt kvs f) {x : Int} {c : Nat} (hc : 0 < c) : Cnt (putK kvs (Sum.inl x) (.int c)) fun y => if y = x then c else f y := by
  refine ⟨nodup_putK h.nd, fun k hk => ?_, fun y => ?_⟩
  · rw [keys_putK] at hk
    split at hk
    · exact h.key k hk
    · rcases List.mem_append.mp hk with hk | hk
      · exact h.key k hk
      · exact ⟨x, List.mem_singleton.mp hk⟩
  · rw [valV_put]
    by_cases e : y = x
    · subst e
      rw [if_pos rfl, if_pos rfl, if_neg (by omega)]
    · rw [if_neg (fun z => e (Sum.inl.inj z)), h.val, if_neg e]
theorem inl_keys : ∀ {ks : List L2.Key}, (∀ k ∈ ks, ∃ x : Int, k = Sum.inl x) → ∃ xs : List Int, ks = xs.map Sum.inl
  | [], _ => ⟨[], rfl⟩
  | k :: ks, h => by
    obtain ⟨x, rfl⟩ := h k List.mem_cons_self
    obtain ⟨xs, rfl⟩ := inl_keys fun j hj => h j (List.mem_cons_of_mem _ hj)
    exact ⟨x :: xs, rfl⟩
theorem nodup_of_map {α β : Type} {f : α → β} : ∀ {l : List α}, (l.map f).Nodup → l.Nodup
  | [], _ => List.nodup_nil
  | a :: l, h => by
    rw [List.map_cons, List.nodup_cons] at h
    exact List.nodup_cons.mpr ⟨fun hm => h.1 (List.mem_map.mpr ⟨a, hm, rfl⟩), nodup_of_map h.2⟩
theorem mem_inl {x : Int} {xs : List Int} : (Sum.inl x : L2.Key) ∈ xs.map Sum.inl ↔ x ∈ xs := by
  rw [List.mem_map]
  exact ⟨fun ⟨y, h1, h2⟩ => (Sum.inl.inj h2) ▸ h1, fun h => ⟨x, h, rfl⟩⟩
theorem Cnt.keys {kvs : List (L2.Key × V)} {f : Int → Nat} (h : Cnt kvs f) : ∃ xs : List Int, kvs.map (·.1) = xs.map Sum.inl ∧ xs.Nodup ∧ ∀ x, x ∈ xs ↔ f x ≠ 0 := by
  obtain ⟨xs, hx⟩ := inl_keys h.key
  refine ⟨xs, hx, nodup_of_map (hx ▸ h.nd), fun x => ?_⟩
  rw [← mem_inl, ← hx]
  have hv := h.val x
  constructor
  · intro hm hf
    rw [if_pos hf] at hv
    exact valV_not hv hm
  · intro hf
    rw [if_neg hf] at hv
    exact valV_in hv
theorem nodup_len {α : Type} [DecidableEq α] : ∀ (l D : List α), l.Nodup → (∀ x ∈ l, x ∈ D) → l.length ≤ D.length
  | [], _, _, _ => Nat.zero_le _
  | x :: l, D, hn, hs => by
    obtain ⟨h1, h2⟩ := List.nodup_cons.mp hn
    have hx : x ∈ D := hs x List.mem_cons_self
    have ih := nodup_len l (D.erase x) h2 fun y hy => (List.mem_erase_of_ne (show y ≠ x from fun e => h1 (by rw [← e]; exact hy))).2 (hs y (List.mem_cons_of_mem _ hy))
    have e := List.length_erase_of_mem hx
    have hp : 0 < D.length := List.length_pos_of_mem hx
    rw [List.length_cons]
    omega
theorem Cnt.len {kvs : List (L2.Key × V)} {f : Int → Nat} (h : Cnt kvs f) (hf : ∀ x, f x ≠ 0 → 0 ≤ x ∧ x ≤ 1000000) : kvs.length ≤ 1000001 := by
  obtain ⟨xs, hx, hn, hm⟩ := h.keys
  have e : kvs.length = xs.length := by
    rw [← List.length_map (f := (·.1)), hx, List.length_map]
  have z := nodup_len xs ((List.range 1000001).map Int.ofNat) hn fun x hxs => by
    obtain ⟨h0, h1⟩ := hf x ((hm x).mp hxs)
    exact List.mem_map.mpr ⟨x.toNat, List.mem_range.mpr (by omega), by show ((x.toNat : Nat) : Int) = x; omega⟩
  rw [List.length_map, List.length_range] at z
  omega
/-- found.get(x, 0) -/
theorem Cnt.get {kvs : List (L2.Key × V)} {f : Int → Nat} (h : Cnt kvs f) (x : Int) : (valV kvs (Sum.inl x : L2.Key)).getD (.int 0) = .int (f x) := by
  rw [h.val]
  by_cases e : f x = 0
  · rw [if_pos e, e]
    rfl
  · rw [if_neg e]
    rfl
/-- the wipings' counts, the first i of them -/
def part (ns : List Int) (i : Nat) (x : Int) : Nat := (((pairsOf ns.length).take i).map fun p => wys (wp ns p.1 p.2) x).sum
theorem part_succ {ns : List Int} {i : Nat} {p : Int × Int} (h : (pairsOf ns.length)[i]? = some p) (x : Int) : part ns (i + 1) x = part ns i x + wys (wp ns p.1 p.2) x := by
  unfold part
  rw [List.take_add_one, h, List.map_append, List.sum_append]
  simp
theorem part_all {ns : List Int} (h : 2 ≤ ns.length) (x : Int) : part ns (pairsOf ns.length).length x = wys ns x := by
  unfold part
  rw [List.take_length, wys_step h]
theorem part_range {ns : List Int} {m : Int} (hb : ∀ y ∈ ns, 0 ≤ y ∧ y ≤ m) {i : Nat} {x : Int} (h : part ns i x ≠ 0) : 0 ≤ x ∧ x ≤ m := by
  obtain ⟨y, hy, h2⟩ := sum_ne h
  obtain ⟨p, hp, rfl⟩ := List.mem_map.mp hy
  obtain ⟨h0, h1, h3⟩ := pairs_mem (List.mem_of_mem_take hp)
  exact ways_range (wp_bound h0 h1 h3 hb) h2
/-- how many boards are put down below a board of so many numbers, at most -/
def gK : Nat → Nat
  | 0 => 0
  | 1 => 0
  | n + 2 => 1 + (pairsOf (n + 2)).length * gK (n + 1)
theorem gK_six : ∀ n, n ≤ 6 → gK n ≤ 3766 := by
  intro n h
  rcases n with _ | _ | _ | _ | _ | _ | _ | n
  all_goals first | decide | (exfalso; omega)
theorem Cnt.has {es : List (L2.Key × V)} {f : Int → Nat} (h : Cnt es f) (x : Int) : (valV es (Sum.inl x : L2.Key)).isSome = decide (f x ≠ 0) := by
  rw [h.val]
  by_cases e : f x = 0
  · rw [if_pos e, decide_eq_false (fun z => z e)]
    rfl
  · rw [if_neg e, decide_eq_true e]
    rfl
/-- a board's counts, with nothing known -/
def NCnt (ns : List Int) : Hp → V → Hp → Prop := fun H1 v H2 => ∃ r es, v = .ref r ∧ H1 r = none ∧ H2 r = some (.dK es) ∧ Cnt es (wys ns)
theorem back_Cnt {ns : List Int} : Back (NCnt ns) := fun H1 H2 v H3 e ⟨r, es, h1, h2, h3⟩ => ⟨r, es, h1, fresh_back e h2, h3⟩
theorem ncnt_has {ns : List Int} {x : Int} {H1 H2 : Hp} {v : V} (h : NCnt ns H1 v H2) : ∃ r es, v = .ref r ∧ H2 r = some (.dK es) ∧ (valV es (Sum.inl x : L2.Key)).isSome = decide (wys ns x ≠ 0) := by
  obtain ⟨r, es, h1, _, h2, hC⟩ := h
  exact ⟨r, es, h1, h2, hC.has x⟩
theorem ncnt_not {ns : List Int} {x : Int} {H1 H2 : Hp} {v : V} (h : NCnt ns H1 v H2) : ∃ r es, v = .ref r ∧ H2 r = some (.dK es) ∧ (!(valV es (Sum.inl x : L2.Key)).isSome) = decide (wys ns x = 0) := by
  obtain ⟨r, es, h1, h2, h3⟩ := ncnt_has (x := x) h
  refine ⟨r, es, h1, h2, ?_⟩
  rw [h3]
  by_cases z : wys ns x = 0
  · rw [decide_eq_true z, decide_eq_false (fun y => y z)]
    rfl
  · rw [decide_eq_false z, decide_eq_true z]
    rfl
end Lw

--@ uses: math_cnt
namespace Lw
/-- rising, each once -/
theorem srt_lt {ns : List Int} (h : ns.Nodup) : (srt ns).Pairwise (· < ·) := by
  have h1 := srt_sorted ns
  have h2 : (srt ns).Nodup := (srt_perm ns).nodup_iff.mpr h
  exact (h1.and h2).imp fun {a b} h => by
    have := h.1
    have := h.2
    omega
theorem lt_one {ns ms : List Int} (h1 : ns.Pairwise (· < ·)) (h2 : ms.Pairwise (· < ·)) (h : ∀ x, x ∈ ns ↔ x ∈ ms) : ns = ms := by
  have n1 : ns.Nodup := h1.imp fun {a b} h => by omega
  have n2 : ms.Nodup := h2.imp fun {a b} h => by omega
  have p : ns.Perm ms := (List.perm_ext_iff_of_nodup n1 n2).mpr h
  exact sorted_one (r := (· < ·)) (fun a b x y => by omega) p h1 h2
/-- all that can be left -/
structure IsLasts (ns ls : List Int) : Prop where
  up : ls.Pairwise (· < ·)
  mem : ∀ x, x ∈ ls ↔ wys ns x ≠ 0
theorem IsLasts.one {ns ls ms : List Int} (h : IsLasts ns ls) (g : IsLasts ns ms) : ls = ms := lt_one h.up g.up fun x => by rw [h.mem, g.mem]
theorem IsLasts.perm {ns ms ls : List Int} (h : IsLasts ns ls) (p : ns.Perm ms) : IsLasts ms ls := ⟨h.up, fun x => by rw [h.mem, wys_perm p]⟩
/-- what all wipings leave -/
def outs : Nat → List Int → List Int
  | 0, b => [b.headD 0]
  | n + 1, b => (pairsOf b.length).flatMap fun p => outs n (wp b p.1 p.2)
def cW : Nat → Nat
  | 0 => 1
  | n + 1 => (pairsOf (n + 2)).length * cW n
theorem sum_const {α : Type} (c : Nat) : ∀ l : List α, (l.map fun _ => c).sum = l.length * c
  | [] => by simp
  | a :: l => by
    rw [List.map_cons, List.sum_cons, sum_const c l, List.length_cons, Nat.succ_mul]
    omega
theorem outs_len : ∀ {n : Nat} {b : List Int}, b.length = n + 1 → (outs n b).length = cW n
  | 0, b, _ => rfl
  | n + 1, b, h => by
    show ((pairsOf b.length).flatMap fun p => outs n (wp b p.1 p.2)).length = (pairsOf (n + 2)).length * cW n
    rw [List.length_flatMap, h]
    have e : (pairsOf (n + 1 + 1)).map (fun p => (outs n (wp b p.1 p.2)).length) = (pairsOf (n + 1 + 1)).map fun _ => cW n := List.map_congr_left fun p hp => by
      obtain ⟨h0, h1, h2⟩ := pairs_mem hp
      have := wp_len (ns := b) h0 h1 (by omega)
      exact outs_len (by omega)
    rw [e, sum_const]
theorem outs_mem : ∀ {n : Nat} {b : List Int} {x : Int}, ways n b x ≠ 0 → x ∈ outs n b
  | 0, b, x, h => by
    by_cases e : b = [x]
    · rw [e]; exact List.mem_singleton.mpr rfl
    · exact absurd (if_neg e) h
  | n + 1, b, x, h => by
    obtain ⟨p, hp, h2⟩ := ways_step.mp h
    exact List.mem_flatMap.mpr ⟨p, hp, outs_mem h2⟩
theorem lasts_few {ns ls : List Int} (h : IsLasts ns ls) (h1 : 1 ≤ ns.length) (h6 : ns.length ≤ 6) : ls.length ≤ 2700 := by
  have z := nodup_len ls (outs (ns.length - 1) ns) (h.up.imp fun {a b} h => by omega) fun x hx => outs_mem ((h.mem x).mp hx)
  rw [outs_len (by omega)] at z
  obtain ⟨k, hk, h5⟩ : ∃ k, ns.length - 1 = k ∧ k ≤ 5 := ⟨_, rfl, by omega⟩
  rw [hk] at z
  have : cW k ≤ 2700 := by
    rcases k with _ | _ | _ | _ | _ | _ | k
    all_goals first | decide | (exfalso; omega)
  omega
def NLasts (ns : List Int) : Hp → V → Hp → Prop := fun H1 v H2 => ∃ p ls, v = .ref p ∧ H1 p = none ∧ H2 p = some (.lst (ls.map V.int)) ∧ IsLasts ns ls
theorem back_Lasts {ns : List Int} : Back (NLasts ns) := fun H1 H2 v H3 e ⟨p, ls, h1, h2, h3⟩ => ⟨p, ls, h1, fresh_back e h2, h3⟩
section
variable {P : Program} {w : World} {K : PySem.W.Frag} {mg : Str → Option Value} {base : Heap}
theorem keys_V {es : List (L2.Key × V)} {ks : List Int} (h : es.map (·.1) = ks.map Sum.inl) : es.map (fun kv => kV kv.1) = ks.map V.int := by
  have : es.map (fun kv => kV kv.1) = (es.map (·.1)).map kV := by rw [List.map_map]; rfl
  rw [this, h, List.map_map]
  rfl
def SCnt (ns : List Int) : Hp → V → Hp → Prop := fun _ v H2 => ∃ r es, v = .ref r ∧ H2 r = some (.dK es) ∧ Cnt es (wys ns)
theorem ex_s {te : TE} {σ : L2.St} {H : Hp} {ns : List Int} (h : EvX te σ H (NCnt ns)) : EvX te σ H (SCnt ns) := fun H1 e Q q => h H1 e Q fun v H2 e2 ⟨r, es, h1, _, h2, h3⟩ => q v H2 e2 ⟨r, es, h1, h2, h3⟩
theorem ex_sv {te : TE} {σ : L2.St} {H : Hp} {ns : List Int} {r : Addr} {es : List (L2.Key × V)} (h : Ev te σ H (.ref r)) (hr : H r = some (.dK es)) (hC : Cnt es (wys ns)) : EvX te σ H (SCnt ns) := fun H1 e Q q => h H1 e Q fun H2 e2 => q _ H2 e2 ⟨r, es, rfl, (e.trans e2) _ _ hr, hC⟩
theorem el_lasts {te : TE} {σ : L2.St} {H : Hp} {ns ls : List Int} (h : EvX te σ H (NLasts ns)) (g : IsLasts ns ls) : EvL te σ H (ls.map V.int) := fun H1 e Q q => h H1 e Q fun v H2 e2 ⟨p, ms, ev, h1, h2, h3⟩ => by
  subst ev
  rw [h3.one g] at h2
  exact q p H2 h1 e2 h2
theorem isLasts_by {ns ls : List Int} (m : Nat) (hb : ∀ y ∈ ns, 0 ≤ y ∧ y ≤ (m : Int)) (hu : ls.Pairwise (· < ·)) (hl : ∀ x ∈ ls, 0 ≤ x ∧ x ≤ (m : Int)) (h : ∀ k ∈ List.range (m + 1), ((k : Int) ∈ ls ↔ wys ns (k : Int) ≠ 0)) : IsLasts ns ls := by
  have hk : ∀ x : Int, 0 ≤ x ∧ x ≤ (m : Int) → (x ∈ ls ↔ wys ns x ≠ 0) := fun x hx => by
    have := h x.toNat (List.mem_range.mpr (by omega))
    rw [show ((x.toNat : Nat) : Int) = x by omega] at this
    exact this
  exact ⟨hu, fun x => ⟨fun hx => (hk x (hl x hx)).mp hx, fun hx => (hk x (ways_range hb hx)).mpr hx⟩⟩
theorem isLasts_some {ns : List Int} (hB : Board ns) : ∃ ls, IsLasts ns ls ∧ 0 < ls.length ∧ ∀ x ∈ ls, 0 ≤ x ∧ x ≤ maxL ns ∧ x % 2 = ns.sum % 2 := by
  have hb : ∀ y ∈ ns, 0 ≤ y ∧ y ≤ maxL ns := fun y hy => ⟨(hB.num y hy).1, (maxL_is (by have := hB.one; omega)).2 y hy⟩
  have hm : 0 ≤ maxL ns := by
    have := (hb _ (maxL_is (ns := ns) (by have := hB.one; omega)).1).1
    omega
  have hI : IsLasts ns (((List.range ((maxL ns).toNat + 1)).map Int.ofNat).filter fun x => decide (wys ns x ≠ 0)) := by
    refine ⟨List.Pairwise.filter _ (List.pairwise_map.mpr (List.pairwise_lt_range.imp fun {a b} h => by show (a : Int) < (b : Int); omega)), fun x => ?_⟩
    rw [List.mem_filter, List.mem_map]
    constructor
    · exact fun h => of_decide_eq_true h.2
    · intro h
      have hr := ways_range hb h
      exact ⟨⟨x.toNat, List.mem_range.mpr (by omega), by show ((x.toNat : Nat) : Int) = x; omega⟩, decide_eq_true h⟩
  obtain ⟨x, hx⟩ := ways_some (n := ns.length - 1) (b := ns) (by have := hB.one; omega)
  refine ⟨_, hI, List.length_pos_of_mem ((hI.mem x).mpr hx), fun y hy => ?_⟩
  have hy' := (hI.mem y).mp hy
  have hr := ways_range hb hy'
  exact ⟨hr.1, hr.2, ways_odd hy'⟩
theorem ex_sortKeys {te : TE} {σ : L2.St} {H : Hp} {ns : List Int} (h : EvX te σ H (SCnt ns)) : EvX (tCB (rSortedI K) (tCons (tCB rListD (tCons te tNil)) tNil)) σ H (NLasts ns) := fun H1 e Q q =>
  h H1 e _ fun v H2 e2 ⟨r, es, ev, hr, hC⟩ => by
    subst ev
    obtain ⟨ks, hks, hkn, hkm⟩ := hC.keys
    refine ⟨r, es, rfl, hr, fun l hl => ⟨l, ks, rfl, sq_of (by rw [upd_same, keys_V hks]), fun ms p h1 h2 hp => ?_⟩⟩
    rw [srt_one h1 h2]
    have e3 : Ex H2 (upd H2 l (.lst (es.map fun kv => kV kv.1))) := Ex.new hl
    exact q _ _ ((e2.trans e3).trans (Ex.new hp)) ⟨p, _, rfl, fresh_back (e2.trans e3) hp, upd_same, srt_lt hkn, fun x => by rw [(srt_perm ks).mem_iff, hkm]⟩
end
end Lw

--@ uses: math_ways
namespace Lw
/-! ### the number that a row of wipings leaves -/
def leftB : List Int → List (Int × Int) → Option Int
  | b, [] => if b.length = 1 then some (b.getD 0 0) else none
  | b, p :: ps => if 0 ≤ p.1 ∧ p.1 < p.2 ∧ p.2 < b.length then leftB (wp b p.1 p.2) ps else none
def optV : Option Int → V
  | none => .non
  | some x => .int x
theorem leftB_ok {b : List Int} {p : Int × Int} {ps : List (Int × Int)} (h : 0 ≤ p.1 ∧ p.1 < p.2 ∧ p.2 < b.length) : leftB b (p :: ps) = leftB (wp b p.1 p.2) ps := by
  show (if _ then _ else _) = _
  rw [if_pos h]
theorem leftB_no {b : List Int} {p : Int × Int} {ps : List (Int × Int)} (h : ¬ (0 ≤ p.1 ∧ p.1 < p.2 ∧ p.2 < b.length)) : leftB b (p :: ps) = none := by
  show (if _ then _ else _) = _
  rw [if_neg h]
theorem optV_scal (o : Option Int) (x : Int) : scal (optV o) (.int x) = true := by
  cases o <;> rfl
theorem optV_eq (o : Option Int) (x : Int) : decide (optV o = V.int x) = decide (o = some x) := by
  cases o with
  | none => rw [decide_eq_false (fun z => nomatch z), decide_eq_false (fun z => nomatch z)]
  | some y => exact decide_eq_decide.mpr ⟨fun z => congrArg some (V.int.inj z), fun z => congrArg V.int (Option.some.inj z)⟩
/-- one more wiping is none -/
theorem leftB_more {x : Int} {q : Int × Int} : ∀ {ps : List (Int × Int)} {b : List Int}, leftB b ps = some x → leftB b (ps ++ [q]) = none
  | [], b, h => by
    have h1 : b.length = 1 := by
      by_cases h1 : b.length = 1
      · exact h1
      · rw [show leftB b [] = none from if_neg h1] at h
        cases h
    exact leftB_no (by omega)
  | p :: ps, b, h => by
    by_cases hp : 0 ≤ p.1 ∧ p.1 < p.2 ∧ p.2 < b.length
    · rw [leftB_ok hp] at h
      rw [List.cons_append, leftB_ok hp]
      exact leftB_more h
    · rw [leftB_no hp] at h
      cases h
/-- as many wipings as there are numbers, less one -/
theorem leftB_len {x : Int} : ∀ {ps : List (Int × Int)} {b : List Int}, leftB b ps = some x → ps.length + 1 = b.length
  | [], b, h => by
    have h1 : b.length = 1 := by
      by_cases h1 : b.length = 1
      · exact h1
      · rw [show leftB b [] = none from if_neg h1] at h
        cases h
    rw [h1]
    rfl
  | p :: ps, b, h => by
    by_cases hp : 0 ≤ p.1 ∧ p.1 < p.2 ∧ p.2 < b.length
    · rw [leftB_ok hp] at h
      have := leftB_len h
      have := wp_len hp.1 hp.2.1 hp.2.2
      rw [List.length_cons]
      omega
    · rw [leftB_no hp] at h
      cases h
theorem leftB_one {x : Int} : leftB [x] [] = some x := rfl
theorem leftB_two {x a b : Int} {ps : List (Int × Int)} (h : leftB [a, b] ps = some x) : ps = [(0, 1)] := by
  have hl := leftB_len h
  obtain ⟨p, rfl⟩ : ∃ p, ps = [p] := List.length_eq_one_iff.mp (by simpa using hl)
  by_cases hp : 0 ≤ p.1 ∧ p.1 < p.2 ∧ p.2 < ([a, b] : List Int).length
  · have h3 : p.2 < 2 := hp.2.2
    rw [show p = (0, 1) from Prod.ext (by show p.1 = 0; omega) (by show p.2 = 1; omega)]
  · rw [leftB_no hp] at h
    cases h
end Lw

namespace Lw
section
variable {P : Program} {w : World} {K : PySem.W.Frag} {mg : Str → Option Value} {base : Heap}
/-- whether it is a whole number, by its kind -/
def spIsWhole (K : PySem.W.Frag) : Sp := fun vs H Q _ => ∃ (x : V) (m : String) (a c : Bool), vs = [x] ∧ (∀ H1, Ex H H1 → TyX K H1 x (.type m)) ∧ kitB m "int" = some a ∧ kitB m "bool" = some c ∧ RetV (.bl (a && !c)) H Q
theorem ok_is_whole {f : Addr} {fd : FuncData} (D : Df K mg "is_whole" s_is_whole ["thing"] f fd) (T : Blt mg) : FnOk P w K mg base CX0 1 f fd ["thing"] (spIsWhole K) := by
  have ND := sc_is_whole.nd
  refine D.F.ok sc_is_whole (fun vs H Q E h => ?_) (fun cdv A outer s H vs Q E hr h => ?_)
  · obtain ⟨x, m, a, c, rfl, _⟩ := h
    rfl
  · obtain ⟨x, m, a, c, rfl, tx, k1, k2, q⟩ := h
    refine ⟨_, (pss_one /- 16 -/ (ps_ret (pe_and (pe_callB (kIsi (K := K) rfl) (by rfl) T.isinstance (by decide +kernel) (pa_cons (pv 0) (pa_cons (pe_bltn (v := .ty "int") (by rfl) T.int boot_int rfl) pa_nil))) (pe_one (pe_not (pe_callB (kIsi (K := K) rfl) (by rfl) T.isinstance (by decide +kernel) (pa_cons (pv 0) (pa_cons (pe_bltn (v := .ty "bool") (by rfl) T.bool boot_bool rfl) pa_nil)))))))), ?_⟩
    refine s_ret (v := .bl (a && !c)) ?_ fun H1 e1 => q H1 e1
    refine ev_andV (ev_isi (ev_var rfl) ev_c tx k1) fun _ => ev_notV (ev_isi (ev_var rfl) ev_c tx k2)
/-- of a whole number -/
theorem spIsWhole_int {i : Int} {H : Hp} {Q : VK} {E : XK} (q : RetV (.bl true) H Q) : spIsWhole K [.int i] H Q E := ⟨.int i, "int", true, false, rfl, fun _ _ => .base (.int i), by decide +kernel, by decide +kernel, q⟩
theorem sv_isWhole {i : Int} {H : Hp} : SpV (spIsWhole K) [.int i] H (.bl true) := fun H1 e Q q E => spIsWhole_int fun H2 e2 => q H2 e2
end
end Lw

--@ uses: is_whole
namespace Lw
section
variable {P : Program} {w : World} {K : PySem.W.Frag} {mg : Str → Option Value} {base : Heap}
/-- of a pair of whole numbers -/
def spIsWiping : Sp := fun vs H Q _ => ∃ (t : Addr) (i j n : Int), vs = [.ref t, .int n] ∧ H t = some (.tup [.int i, .int j]) ∧ RetV (.bl (decide (0 ≤ i) && (decide (i < j) && decide (j < n)))) H Q
theorem ok_is_wiping {f f1 : Addr} {fd fd1 : FuncData} (D : Df K mg "is_wiping" s_is_wiping ["thing", "many"] f fd) (T : Blt mg)
    (o_is_whole : Ok P w K mg base CX0 1 "is_whole" s_is_whole ["thing"] (spIsWhole K) f1 fd1) : FnOk P w K mg base CX0 2 f fd ["thing", "many"] spIsWiping := by
  have ND := sc_is_wiping.nd
  refine D.F.ok sc_is_wiping (fun vs H Q E h => ?_) (fun cdv A outer s H vs Q E hr h => ?_)
  · obtain ⟨t, i, j, n, rfl, _⟩ := h
    rfl
  · obtain ⟨t, i, j, n, rfl, ht, q⟩ := h
    refine ⟨_, (pss_cons /- 23 -/ (ps_if (PW.pt (pw_or (pt_not (pt_val (pe_callB (kIsi (K := K) rfl) (by rfl) T.isinstance (by decide +kernel) (pa_cons (pv 0) (pa_cons (pe_bltn (v := .ty "tuple") (by rfl) T.tuple boot_tuple rfl) pa_nil))))) (pw_or (pt_cmpR op_ne (pe_callB (kLen (K := K) rfl) (by rfl) T.len PySem.boot_len (pa_cons (pv 0) pa_nil)) pe_int (nomark _)) (pw_or (pt_not (pt_val (pe_call o_is_whole.G (hr.mono (by first | decide | omega)) rfl o_is_whole.D.g o_is_whole.D.F.kp o_is_whole.D.b .nil pass0 (pa_cons (pe_ix (kIxT (K := K) rfl) (pv 0) pe_int (fun _ _ => rfl)) pa_nil)))) (pw_or1 (pt_not (pt_val (pe_call o_is_whole.G (hr.mono (by first | decide | omega)) rfl o_is_whole.D.g o_is_whole.D.F.kp o_is_whole.D.b .nil pass0 (pa_cons (pe_ix (kIxT (K := K) rfl) (pv 0) pe_int (fun _ _ => rfl)) pa_nil)))))))))
        (pss_one /- 24 -/ (ps_ret pe_bl))
        pss_nil)
      (pss_one /- 25 -/ (ps_ret (pe_chain3 op_le op_lt op_lt pe_int (pe_ix (kIxT (K := K) rfl) (pv 0) pe_int (fun _ _ => rfl)) (pe_ix (kIxT (K := K) rfl) (pv 0) pe_int (fun _ _ => rfl)) (pv 1))))), ?_⟩
    refine q_when (b := false) ?_ (fun h => nomatch h) fun _ H1 e1 => ?_
    · refine et_is (a := !true || (!decide (V.int ([.int i, .int j] : List V).length = V.int 2) || (!true || !true))) (et_or (et_not (et_B (ev_isi (ev_var rfl) ev_c (fun H1 e1 => .base (.tup (e1 _ _ ht))) (by decide +kernel)))) fun _ => et_or ?_ fun _ => et_or (et_not (et_B ?_)) fun _ => et_not (et_B ?_)) rfl
      · exact et_test (ev_op (ev_lenT (ev_var rfl) (st_of ht)) ev_c (rv_ne rfl))
      · exact ev_call (ea_cons (ev_op (ev_var rfl) ev_c (rv_ixT (st_of ht) rfl)) ea_nil) sv_isWhole
      · exact ev_call (ea_cons (ev_op (ev_var rfl) ev_c (rv_ixT (st_of ht) rfl)) ea_nil) sv_isWhole
    · have ht1 := e1 _ _ ht
      refine s_ret (ev_chain3 ev_c (ev_op (ev_var rfl) ev_c (rv_ixT (st_of ht1) rfl)) (ev_op (ev_var rfl) ev_c (rv_ixT (st_of ht1) rfl)) (ev_var rfl) rv_I0 rv_I0 rv_I0) fun H2 e2 => q H2 (e1.trans e2)
theorem sv_isWiping {t : Addr} {i j n : Int} {H : Hp} (ht : H t = some (.tup [.int i, .int j])) : SpV spIsWiping [.ref t, .int n] H (.bl (decide (0 ≤ i) && (decide (i < j) && decide (j < n)))) := fun H1 e Q q E => ⟨t, i, j, n, rfl, e _ _ ht, fun H2 e2 => q H2 e2⟩
end
end Lw

--@ uses: math_wp
namespace Lw
section
variable {P : Program} {w : World} {K : PySem.W.Frag} {mg : Str → Option Value} {base : Heap}
theorem in_pair {k i j : Int} : inV (.int k) [.int i, .int j] = decide (k = i ∨ k = j) := by
  show (([.int i, .int j] : List V).any fun y => eqV y (.int k)) = _
  simp only [List.any_cons, List.any_nil, eqV, Bool.or_false]
  rw [Bool.eq_iff_iff]
  simp only [Bool.or_eq_true, beq_iff_eq, decide_eq_true_eq]
  omega
def spWipedOf : Sp := fun vs H Q _ => ∃ (a t : Addr) (ns : List Int) (i j : Int), vs = [.ref a, .ref t] ∧ H a = some (.lst (ns.map V.int)) ∧ H t = some (.tup [.int i, .int j]) ∧ 0 ≤ i ∧ i < j ∧ j < ns.length ∧ ns.length ≤ 1000 ∧ RetL ((wp ns i j).map V.int) H Q
theorem ok_wiped_of {f : Addr} {fd : FuncData} (D : Df K mg "wiped_of" s_wiped_of ["board", "wiping"] f fd) (T : Blt mg) : FnOk P w K mg base CX0 1 f fd ["board", "wiping"] spWipedOf := by
  have ND := sc_wiped_of.nd
  refine D.F.ok sc_wiped_of (fun vs H Q E h => ?_) (fun cdv A outer s H vs Q E hr h => ?_)
  · obtain ⟨a, t, ns, i, j, rfl, _⟩ := h
    rfl
  · obtain ⟨a, t, ns, i, j, rfl, ha, ht, h0, h1, h2, h3, q⟩ := h
    refine ⟨_, (pss_cons /- 27 -/ (ps_asg (pv 1) (kgTup (K := K) (n := 2) rfl rfl (pgs_cons (pg_name (i := 2) ND rfl (by first | exact .inl rfl | exact .inr rfl)) (pgs_cons (pg_name (i := 3) ND rfl (by first | exact .inl rfl | exact .inr rfl)) pgs_nil))))
      (pss_cons /- 28 -/ (ps_setLc (i := 4) (own := [("at", 5), ("number", 6)]) (by rfl) ND rfl rfl (sw_true rfl rfl rfl (by decide +kernel)) (pi_enum (by rfl) T.enumerate (pa_cons (pv 0) pa_nil)) (blkOk_by (own := [("at", 5), ("number", 6)]) (N := ["board", "wiping", "one", "other", "others", "at", "number"]) (sc := defScope s_wiped_of) (by decide +kernel)) (fun _ _ _ _ _ => (kgTup (K := K) (n := 2) rfl rfl (pgs_cons (pg_name (i := 5) ND rfl (.inl rfl)) (pgs_cons (pg_name (i := 6) ND rfl (.inl rfl)) pgs_nil)))) (fun _ _ _ _ _ => (pts_one (pt_cmpR (kNotIn (K := K) rfl) (pv 5) (pv 1) (by rfl)))) (fun _ _ _ _ _ => (pv 6)))
      (pss_one /- 29 -/ (ps_ret (pe_op op_cat (pv 4) (pe_lst (pa_cons (pe_callB kAbs (by rfl) T.abs (by decide +kernel) (pa_cons (pe_op op_sub (pe_ix (kIxL (K := K) rfl) (pv 0) (pv 2) (fun _ _ => rfl)) (pe_ix (kIxL (K := K) rfl) (pv 0) (pv 3) (fun _ _ => rfl))) pa_nil)) pa_nil))))))), ?_⟩
    have hl : (ns.map V.int).length = ns.length := List.length_map _
    refine q_asg2 (ev_var rfl) (st_of ht) fun H1 e1 => ?_
    refine q_asgL (xs := (keepAt i j 0 ns).map V.int) ?_ fun p H2 hp e2 h2' => ?_
    · rw [← keepAt_range, List.map_map]
      have ha1 := e1 _ _ ha
      have ht1 := e1 _ _ ht
      refine el_is (el_lcV (fun m => !decide (((m + 0 : Nat) : Int) = i ∨ ((m + 0 : Nat) : Int) = j)) (fun m => .int (ns.getD m 0)) (ei_enum (ea_cons (ev_var rfl) ea_nil) (sq_of ha1)) (by omega) (fun m x H2 H3 e2 hm y => ?_) gm_two) (by rw [hl]; rfl)
      obtain ⟨U, v, x', rfl, hU, rfl, e3, e4⟩ := y
      cases e3
      obtain ⟨n, hn, rfl⟩ := int_at e4
      refine g_two (H1 := H2) upd_same ⟨rfl, Ex.new hU, et_test ?_, fun _ => ?_⟩
      · refine ev_is (ev_op (ev_var rfl) (ev_var rfl) (rv_niT (st_of ((e2.trans (Ex.new hU)) _ _ ht1)) rfl rfl)) ?_
        rw [in_pair]
        rfl
      · refine ev_is (ev_var rfl) ?_
        rw [List.getD_eq_getElem?_getD, hn]
        rfl
    · have ha2 := e2 _ _ (e1 _ _ ha)
      refine s_retL (xs := (wp ns i j).map V.int) ?_ fun p3 H3 hp3 e3 h3' => q p3 H3 (fresh_back e1 (fresh_back e2 hp3)) ((e1.trans e2).trans e3) h3'
      unfold wp
      rw [List.map_append]
      refine el_cat (ev_var rfl) h2' (el_lst (ea_cons (ev_abs (ev_op (ev_op (ev_var rfl) (ev_var rfl) (rv_ixL (sq_of ha2) (at_int_i h0 (by omega)))) (ev_op (ev_var rfl) (ev_var rfl) (rv_ixL (sq_of ha2) (at_int_i (by omega) h2))) rv_I0)) ea_nil) (show 1 ≤ 100000 by decide)) ?_
      have := keepAt_len_le i j ns 0
      rw [List.length_map]
      show _ + 1 ≤ 100000
      omega
theorem sl_wipedOf {a t : Addr} {ns : List Int} {i j : Int} {H : Hp} (ha : H a = some (.lst (ns.map V.int))) (ht : H t = some (.tup [.int i, .int j])) (h0 : 0 ≤ i) (h1 : i < j) (h2 : j < ns.length) (h3 : ns.length ≤ 1000) : SpL spWipedOf [.ref a, .ref t] H ((wp ns i j).map V.int) :=
  fun H1 e Q q E => ⟨a, t, ns, i, j, rfl, e _ _ ha, e _ _ ht, h0, h1, h2, h3, fun p H2 hp e2 h2 => q p H2 hp e2 h2⟩
end
end Lw

--@ uses: math_left is_wiping wiped_of
namespace Lw
section
variable {P : Program} {w : World} {K : PySem.W.Frag} {mg : Str → Option Value} {base : Heap}
def spLeft : Sp := fun vs H Q _ => ∃ (a l : Addr) (ns : List Int) (ws : List V) (ps : List (Int × Int)), vs = [.ref a, .ref l] ∧ H a = some (.lst (ns.map V.int)) ∧ H l = some (.lst ws) ∧ Prs H ws ps ∧ ns.length ≤ 1000 ∧ RetV (optV (leftB ns ps)) H Q
theorem prs_at {H : Hp} {ws : List V} {ps : List (Int × Int)} {i : Nat} {v : V} (h : Prs H ws ps) (e : ws[i]? = some v) : ∃ p t, ps[i]? = some p ∧ v = .ref t ∧ H t = some (.tup [.int p.1, .int p.2]) := h.get e
theorem drop_at {α : Type} {l : List α} {i : Nat} {x : α} (h : l[i]? = some x) : l.drop i = x :: l.drop (i + 1) := by
  obtain ⟨hi, rfl⟩ := List.getElem?_eq_some_iff.mp h
  exact List.drop_eq_getElem_cons hi
theorem ok_left_behind {f f1 f2 : Addr} {fd fd1 fd2 : FuncData} (D : Df K mg "left_behind" s_left_behind ["board", "wipings"] f fd) (T : Blt mg)
    (o_is_wiping : Ok P w K mg base CX0 2 "is_wiping" s_is_wiping ["thing", "many"] spIsWiping f1 fd1)
    (o_wiped_of : Ok P w K mg base CX0 1 "wiped_of" s_wiped_of ["board", "wiping"] spWipedOf f2 fd2) : FnOk P w K mg base CX0 3 f fd ["board", "wipings"] spLeft := by
  have ND := sc_left_behind.nd
  refine D.F.ok sc_left_behind (fun vs H Q E h => ?_) (fun cdv A outer s H vs Q E hr h => ?_)
  · obtain ⟨a, l, ns, ws, ps, rfl, _⟩ := h
    rfl
  · obtain ⟨a, l, ns, ws, ps, rfl, ha, hl, hp, hn, q⟩ := h
    refine ⟨_, (pss_cons /- 41 -/ (ps_set (i := 2) ND rfl (by first | exact .inl rfl | exact .inr rfl) (pe_callTy (kList (K := K) rfl) (by rfl) T.list (by decide +kernel) (pa_cons (pv 0) pa_nil)))
      (pss_cons /- 42 -/ (ps_for PassesOwn.never rfl (pi_list (pv 1)) (pg_name (i := 3) ND rfl (by first | exact .inl rfl | exact .inr rfl))
        (pss_cons /- 43 -/ (ps_if (pt_not (pt_val (pe_call o_is_wiping.G (hr.mono (by first | decide | omega)) rfl o_is_wiping.D.g o_is_wiping.D.F.kp o_is_wiping.D.b .nil pass0 (pa_cons (pv 3) (pa_cons (pe_callB (kLen (K := K) rfl) (by rfl) T.len PySem.boot_len (pa_cons (pv 2) pa_nil)) pa_nil)))))
          (pss_one /- 44 -/ (ps_ret pe_non))
          pss_nil)
        (pss_one /- 45 -/ (ps_set (i := 2) ND rfl (by first | exact .inl rfl | exact .inr rfl) (pe_call o_wiped_of.G (hr.mono (by first | decide | omega)) rfl o_wiped_of.D.g o_wiped_of.D.F.kp o_wiped_of.D.b .nil pass0 (pa_cons (pv 2) (pa_cons (pv 3) pa_nil)))))))
      (pss_one /- 46 -/ (ps_ret (pe_ifExp (pt_cmpR op_eq (pe_callB (kLen (K := K) rfl) (by rfl) T.len PySem.boot_len (pa_cons (pv 2) pa_nil)) pe_int (nomark _)) (pe_ix (kIxL (K := K) rfl) (pv 2) pe_int (fun _ _ => rfl)) pe_non))))), ?_⟩
    refine q_asgL (el_list (ev_var rfl) (sq_of ha)) fun p0 H1 hp0 e1 h1 => ?_
    have hlen := hp.len
    refine q_forLn (ev_var rfl) (sq_of (e1 _ _ hl)) (fun i σ' H' => ∃ y3 ph b, σ' = [some (.ref a), some (.ref l), some (.ref ph), y3] ∧ Ex H H' ∧ H' ph = some (.lst (b.map V.int)) ∧ b.length ≤ 1000 ∧ leftB ns ps = leftB b (ps.drop i))
      (fun H2 e2 => ⟨none, p0, ns, rfl, e1.trans e2, e2 _ _ h1, hn, rfl⟩) (fun i σ' H' _ ⟨_, _, _, _, e, _⟩ => sq_of (e _ _ hl)) (fun i x σ' H' hx ⟨y3, ph, b, hs, e, hb, hbl, hL⟩ => ?_) (fun σ' H' ⟨y3, ph, b, hs, e, hb, hbl, hL⟩ => ?_)
    · subst hs
      obtain ⟨pr, t, hpr, rfl, ht⟩ := hp.get hx
      have ht' := e _ _ ht
      rw [drop_at hpr] at hL
      have hll : (b.map V.int).length = b.length := List.length_map _
      refine q_when (b := !(decide (0 ≤ pr.1) && (decide (pr.1 < pr.2) && decide (pr.2 < ((b.map V.int).length : Int))))) (et_not (et_test (ev_call (ea_cons (ev_var rfl) (ea_cons (ev_len (ev_var rfl) (sq_of hb)) ea_nil)) (sv_isWiping ht')))) (fun hb1 H2 e2 => ?_) (fun hb1 H2 e2 => ?_)
      · refine s_ret ev_c fun H3 e3 => ?_
        have : leftB ns ps = none := by
          rw [hL]
          refine leftB_no fun z => ?_
          rw [hll, decide_eq_true z.1, decide_eq_true z.2.1, decide_eq_true z.2.2] at hb1
          cases hb1
        rw [this] at q
        exact q H3 ((e.trans e2).trans e3)
      · have z : 0 ≤ pr.1 ∧ pr.1 < pr.2 ∧ pr.2 < b.length := by
          rw [hll] at hb1
          simp only [Bool.not_eq_false', Bool.and_eq_true, decide_eq_true_eq] at hb1
          exact hb1
        refine s_asgL (el_call (ea_cons (ev_var rfl) (ea_cons (ev_var rfl) ea_nil)) (sl_wipedOf (e2 _ _ hb) (e2 _ _ ht') z.1 z.2.1 z.2.2 hbl)) fun p2 H3 hp2 e3 h3 => ?_
        have := wp_len z.1 z.2.1 z.2.2
        exact ⟨_, p2, _, rfl, (e.trans e2).trans e3, h3, by omega, by rw [hL, leftB_ok z]⟩
    · subst hs
      rw [hlen, List.drop_length] at hL
      have hll : (b.map V.int).length = b.length := List.length_map _
      refine s_ret (v := optV (leftB ns ps)) (ev_if (b := decide (V.int (((b.map V.int).length : Nat) : Int) = V.int 1)) (et_test (ev_op (ev_len (ev_var rfl) (sq_of hb)) ev_c (rv_eq rfl))) (fun h => ?_) (fun h => ?_)) fun H2 e2 => q H2 (e.trans e2)
      · have h1 : b.length = 1 := by
          have := V.int.inj (of_decide_eq_true h)
          omega
        rw [hL, show leftB b [] = some (b.getD 0 0) from if_pos h1]
        exact ev_op (ev_var rfl) ev_c (rv_ixL (sq_of hb) (at_int_i (i := 0) (by decide) (by omega)))
      · have h1 : ¬ b.length = 1 := fun z => of_decide_eq_false h (congrArg V.int (by rw [hll, z]; rfl))
        rw [hL, show leftB b [] = none from if_neg h1]
        exact ev_c
theorem sv_left {a l : Addr} {ns : List Int} {ws : List V} {ps : List (Int × Int)} {H : Hp} (ha : H a = some (.lst (ns.map V.int))) (hl : H l = some (.lst ws)) (hp : Prs H ws ps) (hn : ns.length ≤ 1000) : SpV spLeft [.ref a, .ref l] H (optV (leftB ns ps)) :=
  fun H1 e Q q E => ⟨a, l, ns, ws, ps, rfl, e _ _ ha, e _ _ hl, hp.mono e, hn, q⟩
end
end Lw

--@ uses: left_behind
namespace Lw
section
variable {P : Program} {w : World} {K : PySem.W.Frag} {mg : Str → Option Value} {base : Heap}
/-- what the top has made of the classes of the answers -/
structure Ans (K : PySem.W.Frag) (mg : Str → Option Value) (CA CL CN fi : Addr) : Prop where
  g_Answer : mg "Answer" = some (.ref CA)
  L : Kc K mg "Led" CL
  N : Kc K mg "Never" CN
  mk_Led : Mk K CL fi
  mk_Never : Mk0 K CN
  nw : NoAttr K CL "wipings"
  la : PySem.W.kitOne K (.ref CL) (.ref CA) = some true
  ll : PySem.W.kitOne K (.ref CL) (.ref CL) = some true
  ln : PySem.W.kitOne K (.ref CL) (.ref CN) = some false
  na : PySem.W.kitOne K (.ref CN) (.ref CA) = some true
  nl : PySem.W.kitOne K (.ref CN) (.ref CL) = some false
  nn : PySem.W.kitOne K (.ref CN) (.ref CN) = some true
theorem Ans.g_Led {CA CL CN fi : Addr} (A : Ans K mg CA CL CN fi) : mg "Led" = some (.ref CL) := A.L.g
theorem Ans.g_Never {CA CL CN fi : Addr} (A : Ans K mg CA CL CN fi) : mg "Never" = some (.ref CN) := A.N.g
/-- the one attribute -/
def fW (l : Addr) : List (Str × V) := putF "wipings" (.ref l) []
theorem fW_look (l : Addr) : (fW l).lookup ("wipings" : Str) = some (.ref l) := by
  unfold fW
  rw [lookup_putF, if_pos rfl]
theorem fW_no (l : Addr) {m : Str} (h : ¬ m = "wipings") : (fW l).lookup m = none := by
  unfold fW
  rw [lookup_putF, if_neg h]
  all_goals rfl
theorem sw : ¬ (("shows" : Str) = "wipings") := by decide +kernel
def spLedInit (CL : Addr) : Sp := fun vs H Q _ => ∃ (p dx l : Addr) (ws : List V), vs = [.ref p, .ref l] ∧ H p = some (.ins CL dx []) ∧ H l = some (.lst ws) ∧
  ∀ (l' : Addr) (H' : Hp), H l' = none → (∀ a o, a ≠ p → H a = some o → H' a = some o) → H' p = some (.ins CL dx (fW l')) → H' l' = some (.lst ws) → Q .non H'
def spLedShows (CL : Addr) : Sp := fun vs H Q _ => ∃ (r dx l a : Addr) (x : Int) (ws : List V) (ps : List (Int × Int)) (ns : List Int), vs = [.ref r, .ref a, .int x] ∧ H r = some (.ins CL dx (fW l)) ∧ H l = some (.lst ws) ∧ Prs H ws ps ∧ H a = some (.lst (ns.map V.int)) ∧ ns.length ≤ 1000 ∧
  RetV (.bl (decide (leftB ns ps = some x))) H Q
def spNeverShows : Sp := fun vs H Q _ => ∃ (r a : Addr) (x : Int) (ns : List Int), vs = [.ref r, .ref a, .int x] ∧ H a = some (.lst (ns.map V.int)) ∧ 1 ≤ ns.length ∧ ns.length ≤ 6 ∧ RetV (.bl (decide (wys ns x = 0))) H Q
def NNever (CN : Addr) : Hp → V → Hp → Prop := fun H1 v H2 => ∃ r dx, v = .ref r ∧ H1 r = none ∧ H2 r = some (.ins CN dx [])
def NLed (CL : Addr) (ns : List Int) (x : Int) : Hp → V → Hp → Prop := fun H1 v H2 => ∃ (r dx l : Addr) (ws : List V) (ps : List (Int × Int)), v = .ref r ∧ H1 r = none ∧ H1 l = none ∧ H2 r = some (.ins CL dx (fW l)) ∧ H2 l = some (.lst ws) ∧ Prs H2 ws ps ∧ leftB ns ps = some x
theorem back_Never {CN : Addr} : Back (NNever CN) := fun H1 H2 v H3 e ⟨r, dx, h1, h2, h3⟩ => ⟨r, dx, h1, fresh_back e h2, h3⟩
theorem back_Led {CL : Addr} {ns : List Int} {x : Int} : Back (NLed CL ns x) := fun H1 H2 v H3 e ⟨r, dx, l, ws, ps, h1, h2, h3, h4⟩ => ⟨r, dx, l, ws, ps, h1, fresh_back e h2, fresh_back e h3, h4⟩
section
variable {σ : L2.St} {H : Hp} {ta td te tk : TE} {E : XK}
theorem ex_newLed {CL l : Addr} {ws : List V} (h : Ev te σ H (.ref l)) (hl : H l = some (.lst ws)) : EvX (tMake CL (spLedInit CL) [] E (tCons te tNil)) σ H (fun H1 v H2 => ∃ r dx l', v = .ref r ∧ H1 r = none ∧ H1 l' = none ∧ H2 r = some (.ins CL dx (fW l')) ∧ H2 l' = some (.lst ws)) := fun H1 e Q q =>
  h H1 e _ fun H2 e2 r dx hr hdx hne => by
    have s : Ex H2 (upd (upd H2 dx (.own r)) r (.ins CL dx [])) := (Ex.new hdx).trans (Ex.new (by rw [upd_ne (Ne.symm hne)]; exact hr))
    refine ⟨r, dx, l, ws, rfl, upd_same, s _ _ ((e.trans e2) _ _ hl), fun l' H' hl' hk hp hl2 => ⟨rfl, q _ H' (fun a o ha => ?_) ⟨r, dx, l', rfl, fresh_back e2 hr, fresh_back (e2.trans s) hl', hp, hl2⟩⟩⟩
    have ha2 := e2 _ _ ha
    exact hk a o (fun z => by rw [z, hr] at ha2; cases ha2) (s _ _ ha2)
theorem ex_newNever {CN : Addr} : EvX (tMk0 CN) σ H (NNever CN) := fun H1 e Q q r dx hr hdx hne =>
  q _ _ ((Ex.new hdx).trans (Ex.new (by rw [upd_ne (Ne.symm hne)]; exact hr))) ⟨r, dx, rfl, hr, upd_same⟩
/-- an answer of these wipings -/
def NLedP (CL : Addr) (ps : List (Int × Int)) : Hp → V → Hp → Prop := fun H1 v H2 => ∃ (r dx l : Addr) (ws : List V), v = .ref r ∧ H1 r = none ∧ H1 l = none ∧ H2 r = some (.ins CL dx (fW l)) ∧ H2 l = some (.lst ws) ∧ Prs H2 ws ps
theorem back_LedP {CL : Addr} {ps : List (Int × Int)} : Back (NLedP CL ps) := fun H1 H2 v H3 e ⟨r, dx, l, ws, h1, h2, h3, h4⟩ => ⟨r, dx, l, ws, h1, fresh_back e h2, fresh_back e h3, h4⟩
theorem ex_newLedV {CL l : Addr} {ws : List V} {ps : List (Int × Int)} (h : Ev te σ H (.ref l)) (hl : H l = some (.lst ws)) (hp : Prs H ws ps) : EvX (tMake CL (spLedInit CL) [] E (tCons te tNil)) σ H (NLedP CL ps) := fun H1 e Q q =>
  ex_newLed h hl H1 e Q fun v H2 e2 ⟨r, dx, l', ev, h1, h2, h3, h4⟩ => q v H2 e2 ⟨r, dx, l', ws, ev, h1, h2, h3, h4, (hp.mono e).mono e2⟩
theorem ex_newLedP {CL : Addr} {ps : List (Int × Int)} (h : EvX te σ H (NP ps)) : EvX (tMake CL (spLedInit CL) [] E (tCons te tNil)) σ H (NLedP CL ps) := fun H1 e Q q =>
  h H1 e _ fun v H2 e2 ⟨l, ws, ev, _, hl, hp⟩ r dx hr hdx hne => by
    subst ev
    have s : Ex H2 (upd (upd H2 dx (.own r)) r (.ins CL dx [])) := (Ex.new hdx).trans (Ex.new (by rw [upd_ne (Ne.symm hne)]; exact hr))
    have e3 : ∀ H', (∀ a o, a ≠ r → (upd (upd H2 dx (.own r)) r (.ins CL dx [])) a = some o → H' a = some o) → Ex H2 H' := fun H' hk a o ha => hk a o (fun z => by rw [z, hr] at ha; cases ha) (s _ _ ha)
    exact ⟨r, dx, l, ws, rfl, upd_same, s _ _ hl, fun l' H' hl' hk hp' hl2 => ⟨rfl, q _ H' (e2.trans (e3 H' hk)) ⟨r, dx, l', ws, rfl, fresh_back e2 hr, fresh_back (e2.trans s) hl', hp', hl2, hp.mono (e3 H' hk)⟩⟩⟩
/-- a method of a new object -/
theorem ev_methX {C : Addr} {m : Str} {sp : Sp} {dvs : List V} {tr : TA} {z : V} {S : Hp → V → Hp → Prop} (h : EvX ta σ H S) (hS : ∀ H0 v H1, S H0 v H1 → ∃ r dx fs, v = .ref r ∧ H1 r = some (.ins C dx fs) ∧ fs.lookup m = none)
    (ha : ∀ v H0 H1, Ex H H1 → S H0 v H1 → EvAX tr σ H1 (fun vs H2 => SpV sp (v :: (vs ++ dvs)) H2 z)) : Ev (tMeth C m sp dvs E ta tr) σ H z := fun H1 e Q q =>
  h H1 e _ fun v H2 e2 s => by
    obtain ⟨r, dx, fs, ev, hr, hm⟩ := hS _ _ _ s
    exact ⟨r, dx, fs, ev, hr, hm, ha v H1 H2 (e.trans e2) s H2 (Ex.refl _) _ fun vs H3 e3 sv => sv H3 (Ex.refl _) Q (fun H4 e4 => q H4 ((e2.trans e3).trans e4)) E⟩
end
end
end Lw

--@ uses: math_lasts sp_answer
namespace Lw
/-! ### a method of an object of one of two classes -/
def tMeth2 (C1 C2 : Addr) (m : Str) (sp1 sp2 : Sp) (E1 E2 : XK) (ta : TE) (t : TA) : TE := fun σ H Q => ta σ H fun x H1 => (∃ a dx fs, x = .ref a ∧ H1 a = some (.ins C1 dx fs) ∧ fs.lookup m = none ∧ t σ H1 fun vs H2 => sp1 (x :: (vs ++ [])) H2 Q E1) ∨
  (∃ a dx fs, x = .ref a ∧ H1 a = some (.ins C2 dx fs) ∧ fs.lookup m = none ∧ t σ H1 fun vs H2 => sp2 (x :: (vs ++ [])) H2 Q E2)
section
variable {X : Cx} {k1 k2 : Nat} {C1 C2 f1 f2 : Addr} {m q1 q2 : Str} {st1 st2 : Stmt} {ps1 ps2 : List Str} {sp1 sp2 : Sp} {fd1 fd2 : FuncData} {E1 E2 : XK} {o e : Expr} {es : List Expr} {ta : TE} {t : TA} {apos pos : Pos}
theorem pe_meth2 {pl : Sem Bool} (he : PE X o ta) (m1 : Me X.prog X.w X.K X.mg X.base CX0 k1 C1 m q1 st1 ps1 sp1 f1 fd1) (m2 : Me X.prog X.w X.K X.mg X.base CX0 k2 C2 m q2 st2 ps2 sp2 f2 fd2) (hr1 : Room k1 X.A) (hr2 : Room k2 X.A) (ha : PA X (e :: es) t)
    (hx1 : Passes CX0 X E1 := by exact pass0) (hx2 : Passes CX0 X E2 := by exact pass0)
    (hst : starEach (e :: es) X.env = (false, eval e X.env) :: starEach es X.env := by rfl) (hpl : (backTo pos (starEach es X.env)).any (·.1) = false := by rfl)
    (ht : eval (.Call (.Attribute o m apos) (e :: es) [] pos) X.env = (do
      let ov ← eval o X.env
      standAt apos.atName
      let (f, first) ← holding [ov] (getMethod ov m pl)
      callWith pos f first (backTo pos (starEach (e :: es) X.env)) (backToKw pos (keywordEach [] X.env))) := by rfl) :
    PE X (.Call (.Attribute o m apos) (e :: es) [] pos) (tMeth2 C1 C2 m sp1 sp2 E1 E2 ta t) := by
  refine ⟨fun pins s σ H Q I h => ?_⟩
  refine PySem.W.methodCall_KW (pl := pl) (thn (he.run pins s σ H _ I h) fun u s1 ⟨x, H1, I1, rx, h2⟩ => ?_) ht
  rcases h2 with ⟨a, dx, fs, ex, ea, l, q⟩ | ⟨a, dx, fs, ex, ea, l, q⟩
  · subst ex
    obtain rfl : u = Value.ref a := rx
    refine getmeth_ok I1 ea m1.cl m1.m l ?_
    refine PySem.W.callWith_K (first := [.ref a]) (h₀ := X.base) I.ok.mod.kin m1.m.kp (thn (ha.run pos pins s1 σ H1 _ I1 q) fun us s2 ⟨vs, H2, I2, r, q2⟩ => ⟨I2.kIn, ?_⟩) hst hpl
    exact run_fn (us := .ref a :: us) (vs := .ref a :: vs) m1.G hr1 m1.D.b .nil hx1 I2 (.cons rfl r) q2
  · subst ex
    obtain rfl : u = Value.ref a := rx
    refine getmeth_ok I1 ea m2.cl m2.m l ?_
    refine PySem.W.callWith_K (first := [.ref a]) (h₀ := X.base) I.ok.mod.kin m2.m.kp (thn (ha.run pos pins s1 σ H1 _ I1 q) fun us s2 ⟨vs, H2, I2, r, q2⟩ => ⟨I2.kIn, ?_⟩) hst hpl
    exact run_fn (us := .ref a :: us) (vs := .ref a :: vs) m2.G hr2 m2.D.b .nil hx2 I2 (.cons rfl r) q2
end
section
variable {K : PySem.W.Frag} {σ : L2.St} {H H' : Hp} {ta tb te tl td : TE} {tr : TA} {x y z v w : V} {D : Ends} {tu tz : TS} {E : XK}
theorem ev_meth2a {C1 C2 r dx : Addr} {fs : List (Str × V)} {m : Str} {sp1 sp2 : Sp} {vs : List V} {E1 E2 : XK} (ha : Ev ta σ H (.ref r)) (hr : H r = some (.ins C1 dx fs)) (hm : fs.lookup m = none) (h : EvA tr σ H vs) (hs : SpV sp1 (.ref r :: (vs ++ [])) H z) : Ev (tMeth2 C1 C2 m sp1 sp2 E1 E2 ta tr) σ H z := fun H1 e Q q =>
  ha H1 e _ fun H2 e2 => .inl ⟨r, dx, fs, rfl, (e.trans e2) _ _ hr, hm, h H2 (e.trans e2) _ fun H3 e3 => hs H3 ((e.trans e2).trans e3) Q (fun H4 e4 => q H4 ((e2.trans e3).trans e4)) E1⟩
theorem ev_meth2b {C1 C2 r dx : Addr} {fs : List (Str × V)} {m : Str} {sp1 sp2 : Sp} {vs : List V} {E1 E2 : XK} (ha : Ev ta σ H (.ref r)) (hr : H r = some (.ins C2 dx fs)) (hm : fs.lookup m = none) (h : EvA tr σ H vs) (hs : SpV sp2 (.ref r :: (vs ++ [])) H z) : Ev (tMeth2 C1 C2 m sp1 sp2 E1 E2 ta tr) σ H z := fun H1 e Q q =>
  ha H1 e _ fun H2 e2 => .inr ⟨r, dx, fs, rfl, (e.trans e2) _ _ hr, hm, h H2 (e.trans e2) _ fun H3 e3 => hs H3 ((e.trans e2).trans e3) Q (fun H4 e4 => q H4 ((e2.trans e3).trans e4)) E2⟩
/-- statements that change a list -/
theorem q_rev0 {l : Addr} {xs : List V} (hl : H l = some (.lst xs)) (ha : Ev ta σ H (.ref l)) (k : ∀ H1, Ex H H1 → tz D σ (upd H1 l (.lst xs.reverse))) : tSeq (tDrop (tBM0 K "list" rReverse ta)) tz D σ H := ha H (Ex.refl H) _ fun H1 e1 =>
  ⟨Or.inl ⟨rfl, xs, sq_of (e1 l _ hl)⟩, l, xs, rfl, rfl, e1 l _ hl, k H1 e1⟩
theorem s_pop0 {l : Addr} {xs : List V} {y : V} (hl : H l = some (.lst xs)) (hy : xs[xs.length - 1]? = some y) (ha : Ev ta σ H (.ref l)) (k : ∀ H1, Ex H H1 → D.nx σ (upd H1 l (.lst xs.dropLast))) : tDrop (tBM0 K "list" rPop ta) D σ H := ha H (Ex.refl H) _ fun H1 e1 =>
  ⟨Or.inl ⟨rfl, xs, sq_of (e1 l _ hl)⟩, l, xs, y, rfl, rfl, e1 l _ hl, hy, k H1 e1⟩
theorem s_clearN {xs : List V} (h : EvL ta σ H xs) (k : ∀ H1, Ex H H1 → D.nx σ H1) : tDrop (tBM0 K "list" rClear ta) D σ H := h H (Ex.refl H) _ fun p H1 hp e1 h1 =>
  ⟨Or.inl ⟨rfl, xs, sq_of h1⟩, p, xs, rfl, rfl, h1, k _ (Ex.mut e1 hp)⟩
theorem q_appN {xs : List V} (h : EvL ta σ H xs) (hv : Ev te σ H v) (hz : xs.length < 100000) (k : ∀ H1, Ex H H1 → tz D σ H1) : tSeq (tDrop (tBM K "list" rAppend ta (tCons te tNil))) tz D σ H := h H (Ex.refl H) _ fun p H1 hp e1 h1 =>
  ⟨Or.inl ⟨rfl, xs, sq_of h1⟩, hv H1 e1 _ fun H2 e2 => ⟨p, xs, v, rfl, rfl, e2 _ _ h1, sz_lt hz, k _ (Ex.mut (e1.trans e2) hp)⟩⟩
theorem q_setL' {l : Addr} {xs : List V} {j : Nat} (hl : H l = some (.lst xs)) (h : Ev te σ H v) (ho : Ev ta σ H (.ref l)) (hi : Ev tb σ H (.int (j : Int))) (hj : j < xs.length) (k : ∀ H1, Ex H H1 → tz D σ (upd H1 l (.lst (xs.set j v)))) :
    tSeq (tAsg te (gSub ta tb rSetL)) tz D σ H := s_setL (D := { D with nx := tz D }) hl h ho hi hj k
/-- f(..), f changing what it is handed -/
theorem q_dropS {sp : Sp} {dvs : List V} {RA : List V → Hp → Prop} (h : EvAX tr σ H RA) (k : ∀ vs H1, Ex H H1 → RA vs H1 → sp (vs ++ dvs) H1 (fun _ H2 => tz D σ H2) E) : tSeq (tDrop (tCall sp dvs E tr)) tz D σ H := h H (Ex.refl _) _ fun vs H1 e r => k vs H1 e r
/-- an item of a new list -/
theorem ev_ixNL {xs : List V} {i : Int} (ha : EvL ta σ H xs) (hb : Ev tb σ H (.int i)) (hi : atI xs i = some v) : Ev (tOp (rIxL K) ta tb) σ H v := fun H1 e Q q =>
  ha H1 e _ fun p H2 _ e2 h2 => hb H2 (e.trans e2) _ fun H3 e3 => ⟨p, xs, i, v, rfl, rfl, sq_of (e3 p _ h2), hi, q H3 (e2.trans e3)⟩
/-- a for over a tuple written there -/
theorem s_forNT {xs : List V} {j : Nat} (h : EvU tl σ H xs) (Pv : Addr → Nat → L2.St → Hp → Prop) (h0 : ∀ p H1, H p = none → Ex H H1 → H1 p = some (.tup xs) → Pv p 0 σ H1) (hl : ∀ p i σ' H', i ≤ xs.length → Pv p i σ' H' → SqT K H' p xs)
    (hs : ∀ p i x σ' H', xs[i]? = some x → Pv p i σ' H' → tu { D with nx := Pv p (i + 1), ct := Pv p (i + 1), bk := D.nx } (σ'.set j (some x)) H') (hd : ∀ p σ' H', Pv p xs.length σ' H' → D.nx σ' H') : tFor (iTup K tl) (gName j) tu D σ H :=
  h H (Ex.refl H) _ fun p H1 hp e h1 => ⟨p, rfl, ⟨xs, st_of h1⟩, for_tup (Pv p) (h0 p H1 hp e h1) (hl p) (hs p) (hd p)⟩
theorem in_ints {n : Int} {ls : List Int} : inV (.int n) (ls.map V.int) = decide (n ∈ ls) := by
  unfold inV
  rw [Bool.eq_iff_iff, List.any_eq_true, decide_eq_true_eq]
  constructor
  · rintro ⟨y, hy, h⟩
    obtain ⟨m, hm, rfl⟩ := List.mem_map.mp hy
    have : m = n := by simpa [eqV] using h
    exact this ▸ hm
  · intro h
    exact ⟨.int n, List.mem_map.mpr ⟨n, h, rfl⟩, by simp [eqV]⟩
theorem flat_ints {ls : List Int} : (ls.map V.int).all flatV = true := by
  rw [List.all_eq_true]
  intro v hv
  obtain ⟨m, _, rfl⟩ := List.mem_map.mp hv
  rfl
theorem ei_keysK {d : Addr} {kvs : List (L2.Key × V)} {od : Obj} (h : Ev ta σ H (.ref d)) (hd : H d = some (.frz od (.dK kvs))) : EvI (iKeys ta) σ H kvs.length (fun Y _ => Y = fun i H x H' => H' = H ∧ ∃ k v, kvs[i]? = some (k, v) ∧ x = kV k) := fun H1 e R k =>
  h H1 e _ fun H2 e2 => ⟨d, od, rfl, .inl ⟨kvs, (e.trans e2) _ _ hd, k _ _ H2 e2 ⟨_, walk_keys, fun _ e3 => ((e.trans e2).trans e3) _ _ hd⟩ rfl⟩⟩
/-- sorted([k for k in d if d[k] > 0]), d a dict of counts -/
theorem el_sortPos {i j : Nat} {vs : List Nat} {d : Addr} {es : List (L2.Key × V)} {ns ls : List Int} (hv : σ[i]? = some (some (.ref d))) (hd : H d = some (.dK es)) (hC : Cnt es (wys ns)) (hI : IsLasts ns ls) (hn : es.length ≤ 15000000)
    (hw : ∀ x, wipe ((wipe σ vs).set j (some x)) vs = wipe σ vs) (hj : ∀ x, ((wipe σ vs).set j (some x))[j]? = some (some x)) (hi : ∀ x, ((wipe σ vs).set j (some x))[i]? = some (some (.ref d))) :
    EvL (tCB (rSortedI K) (tCons (tLockE (tLc (iKeys (tVar i)) (gName j) (tTest (tOp (rI0 fun a b => .bl (decide (b < a))) (tDGet (tVar i) (tVar j)) (tC (.int 0)))) (tVar j) vs)) tNil)) σ H (ls.map V.int) := by
  obtain ⟨ks, hks, hkn, hkm⟩ := hC.keys
  have hkl : es.length = ks.length := by
    have := congrArg List.length hks
    rw [List.length_map, List.length_map] at this
    exact this
  have hsort : srt ks = ls := by
    refine lt_one ?_ hI.up fun x => ?_
    · exact srt_lt hkn
    · rw [(srt_perm ks).mem_iff, hkm, hI.mem]
  intro H1 e Q q
  refine ⟨d, .dK es, e _ _ hd, trivial, fun od => ?_⟩
  have hg : ∀ (m : Nat) (k : L2.Key) (v : V), es[m]? = some (k, v) → ∃ x : Int, ks[m]? = some x ∧ k = Sum.inl x := fun m k v h => by
    have h3 : (es.map (·.1))[m]? = some k := by rw [List.getElem?_map, h]; rfl
    rw [hks, List.getElem?_map] at h3
    cases e : ks[m]? with
    | none => rw [e] at h3; cases h3
    | some c => rw [e] at h3; exact ⟨c, rfl, (Option.some.inj h3).symm⟩
  have P : EvL (tLc (iKeys (tVar i)) (gName j) (tTest (tOp (rI0 fun a b => .bl (decide (b < a))) (tDGet (tVar i) (tVar j)) (tC (.int 0)))) (tVar j) vs) σ (upd H1 d (.frz od (.dK es))) (ks.map V.int) := by
    refine el_is (el_lcV (fun _ => true) (fun m => .int (ks.getD m 0)) (ei_keysK (ev_var hv) upd_same) hn (fun m x H2 H3 e2 hm y => ?_) gm_name) ?_
    · obtain ⟨rfl, k, v, hk, rfl⟩ := y
      obtain ⟨c, hc, rfl⟩ := hg m k v hk
      have hc0 := (hkm c).mp (List.mem_of_getElem? hc)
      have hcv := hC.val c
      rw [if_neg hc0] at hcv
      refine ⟨hw _, Ex.refl _, et_test (ev_is (ev_op (ev_dgetK (ev_var (hi _)) (ev_var (hj _)) (.inr ⟨od, e2 _ _ upd_same⟩) hcv) ev_c rv_I0) ?_), fun _ => ev_is (ev_var (hj _)) ?_⟩
      · rw [decide_eq_true (by omega)]
      · rw [List.getD_eq_getElem?_getD, hc]
        rfl
    · unfold given
      rw [List.filter_eq_self.mpr (fun _ _ => rfl), hkl]
      refine List.ext_getElem? fun m => ?_
      rw [List.getElem?_map, List.getElem?_map]
      by_cases hm : m < ks.length
      · rw [List.getElem?_range hm, List.getElem?_eq_getElem hm]
        show some (V.int (ks.getD m 0)) = some (V.int ks[m])
        rw [List.getD_eq_getElem?_getD, List.getElem?_eq_getElem hm]
        rfl
      · rw [List.getElem?_eq_none (by rw [List.length_range]; omega), List.getElem?_eq_none (by omega)]
        rfl
  refine P _ (Ex.refl _) _ fun p H2 hp e2 h2 => ?_
  have hd2 := e2 _ _ (upd_same (H := H1) (a := d) (o := .frz od (.dK es)))
  have pd : p ≠ d := fun z => by rw [z, upd_same] at hp; cases hp
  rw [upd_ne pd] at hp
  have eA : Ex H1 (upd H2 d (.dK es)) := fun a o ha => by
    by_cases h : a = d
    · rw [h, upd_same, ← e _ _ hd, ← h, ha]
    · rw [upd_ne h]
      exact e2 _ _ (by rw [upd_ne h]; exact ha)
  refine ⟨hd2, p, ks, rfl, sq_of (by rw [upd_ne pd]; exact h2), fun ms r h1 h3 hr => ?_⟩
  rw [srt_one h1 h3, hsort]
  exact q r _ (fresh_back eA hr) (eA.trans (Ex.new hr)) upd_same
end
end Lw

--@ uses: wiped_of
namespace Lw
section
variable {P : Program} {w : World} {K : PySem.W.Frag} {mg : Str → Option Value} {base : Heap}
theorem ok_law_wiped {f : Addr} {fd : FuncData} (D : Df K mg "_law_wiped" s_law_wiped ["_law_board_here", "_law_pair"] f fd) (T : Blt mg) : FnOk P w K mg base CX0 1 f fd ["_law_board_here", "_law_pair"] spWipedOf := by
  have ND := sc_law_wiped.nd
  refine D.F.ok sc_law_wiped (fun vs H Q E h => ?_) (fun cdv A outer s H vs Q E hr h => ?_)
  · obtain ⟨a, t, ns, i, j, rfl, _⟩ := h
    rfl
  · obtain ⟨a, t, ns, i, j, rfl, ha, ht, h0, h1, h2, h3, q⟩ := h
    refine ⟨_, (pss_cons /- 134 -/ (ps_set (i := 2) ND rfl (by first | exact .inl rfl | exact .inr rfl) (pe_lst pa_nil))
      (pss_cons /- 135 -/ (ps_for PassesOwn.never rfl (pi_enum (by rfl) T.enumerate (pa_cons (pv 0) pa_nil)) (kgTup (K := K) (n := 2) rfl rfl (pgs_cons (pg_name (i := 3) ND rfl (by first | exact .inl rfl | exact .inr rfl)) (pgs_cons (pg_name (i := 4) ND rfl (by first | exact .inl rfl | exact .inr rfl)) pgs_nil)))
        (pss_one /- 136 -/ (ps_if (pt_cmpR (kNotIn (K := K) rfl) (pv 3) (pv 1) (by rfl))
          (pss_one /- 137 -/ (ps_expr (pe_bm PySem.F.plainAttrs_list PySem.F.slot_list_append PySem.F.type_list_append mt_append (pv 2) (pa_cons (pv 4) pa_nil))))
          pss_nil)))
      (pss_cons /- 138 -/ (ps_expr (pe_bm PySem.F.plainAttrs_list PySem.F.slot_list_append PySem.F.type_list_append mt_append (pv 2) (pa_cons (pe_callB kAbs (by rfl) T.abs (by decide +kernel) (pa_cons (pe_op op_sub (pe_ix (kIxL (K := K) rfl) (pv 0) (pe_ix (kIxT (K := K) rfl) (pv 1) pe_int (fun _ _ => rfl)) (fun _ _ => rfl)) (pe_ix (kIxL (K := K) rfl) (pv 0) (pe_ix (kIxT (K := K) rfl) (pv 1) pe_int (fun _ _ => rfl)) (fun _ _ => rfl))) pa_nil)) pa_nil)))
      (pss_one /- 139 -/ (ps_ret (pv 2)))))), ?_⟩
    have hl : (ns.map V.int).length = ns.length := List.length_map _
    refine q_asgL (el_lst ea_nil (by decide)) fun p H1 hp e1 h1' => ?_
    refine q_forEn (ea_cons (ev_var rfl) ea_nil) (sq_of (e1 _ _ ha)) (fun m σ' H' => ∃ y3 y4, σ' = [some (.ref a), some (.ref t), some (.ref p), y3, y4] ∧ Ex H H' ∧ H' p = some (.lst ((keepAt i j 0 (ns.take m)).map V.int)))
      (fun H2 e2 => ⟨none, none, rfl, e1.trans e2, e2 _ _ h1'⟩) (fun m σ' H' _ ⟨_, _, _, e, _⟩ => sq_of (e _ _ ha)) (fun m x σ' H' H2 hx ⟨y3, y4, hs, e, hp'⟩ e2 => ?_) (fun σ' H' ⟨y3, y4, hs, e, hp'⟩ => ?_)
    · subst hs
      obtain ⟨n, hn, rfl⟩ := int_at hx
      have hm := (List.getElem?_eq_some_iff.mp hn).1
      have e3 := e.trans e2
      have hk : keepAt i j 0 (ns.take (m + 1)) = keepAt i j 0 (ns.take m) ++ (if (m : Int) = i ∨ (m : Int) = j then [] else [n]) := by
        rw [List.take_add_one, hn]
        show keepAt i j 0 (ns.take m ++ [n]) = _
        rw [keepAt_append, List.length_take, Nat.min_eq_left (by omega), Nat.zero_add]
      refine s_when (b := !decide ((m : Int) = i ∨ (m : Int) = j)) ?_ (fun hb H4 e4 => ?_) (fun hb H4 e4 => ?_)
      · refine et_test (ev_is (ev_op (ev_var rfl) (ev_var rfl) (rv_niT (st_of (e3 _ _ ht)) rfl rfl)) ?_)
        rw [in_pair]
      · refine s_app (l := p) (e4 _ _ (e2 _ _ hp')) (ev_var rfl) (ev_var rfl) ?_ fun H5 e5 => ⟨_, _, rfl, Ex.mut ((e3.trans e4).trans e5) hp, ?_⟩
        · have := keepAt_len_le i j (ns.take m) 0
          rw [List.length_map]
          rw [List.length_take] at this
          omega
        · rw [upd_same, hk, if_neg (nd_t hb), List.map_append]
          rfl
      · refine ⟨_, _, rfl, e3.trans e4, ?_⟩
        rw [hk, if_pos (nd_f hb), List.append_nil]
        exact e4 _ _ (e2 _ _ hp')
    · subst hs
      have ha2 := e _ _ ha
      rw [hl, List.take_length] at hp'
      refine q_app (l := p) hp' (ev_var rfl) (ev_abs (ev_op (ev_op (ev_var rfl) (ev_op (ev_var rfl) ev_c (rv_ixT (st_of (e _ _ ht)) rfl)) (rv_ixL (sq_of ha2) (at_int_i h0 (by omega)))) (ev_op (ev_var rfl) (ev_op (ev_var rfl) ev_c (rv_ixT (st_of (e _ _ ht)) rfl)) (rv_ixL (sq_of ha2) (at_int_i (by omega) h2))) rv_I0)) ?_ fun H3 e3 => ?_
      · have := keepAt_len_le i j ns 0
        rw [List.length_map]
        omega
      · refine s_ret (ev_var rfl) fun H4 e4 => q p H4 hp ((Ex.mut (e.trans e3) hp).trans e4) (e4 _ _ ?_)
        unfold wp
        rw [upd_same, List.map_append]
        rfl
end
end Lw

--@ uses: left_behind law_wiped
namespace Lw
section
variable {P : Program} {w : World} {K : PySem.W.Frag} {mg : Str → Option Value} {base : Heap}
theorem ok_law_left {f f1 : Addr} {fd fd1 : FuncData} (D : Df K mg "_law_left" s_law_left ["_law_board_here", "_law_pairs_here"] f fd) (T : Blt mg)
    (o_law_wiped : Ok P w K mg base CX0 1 "_law_wiped" s_law_wiped ["_law_board_here", "_law_pair"] spWipedOf f1 fd1) : FnOk P w K mg base CX0 2 f fd ["_law_board_here", "_law_pairs_here"] spLeft := by
  have ND := sc_law_left.nd
  refine D.F.ok sc_law_left (fun vs H Q E h => ?_) (fun cdv A outer s H vs Q E hr h => ?_)
  · obtain ⟨a, l, ns, ws, ps, rfl, _⟩ := h
    rfl
  · obtain ⟨a, l, ns, ws, ps, rfl, ha, hl, hp, hn, q⟩ := h
    refine ⟨_, (pss_cons /- 159 -/ (ps_for PassesOwn.never rfl (pi_list (pv 1)) (pg_name (i := 2) ND rfl (by first | exact .inl rfl | exact .inr rfl))
        (pss_cons /- 160 -/ (ps_if (PW.pt (pw_or (pt_not (pt_val (pe_callB (kIsi (K := K) rfl) (by rfl) T.isinstance (by decide +kernel) (pa_cons (pv 2) (pa_cons (pe_bltn (v := .ty "tuple") (by rfl) T.tuple boot_tuple rfl) pa_nil))))) (pw_or (pt_cmpR op_ne (pe_callB (kLen (K := K) rfl) (by rfl) T.len PySem.boot_len (pa_cons (pv 2) pa_nil)) pe_int (nomark _)) (pw_or1 (pt_not (pt_chain3 op_le op_lt op_lt pe_int (pe_ix (kIxT (K := K) rfl) (pv 2) pe_int (fun _ _ => rfl)) (pe_ix (kIxT (K := K) rfl) (pv 2) pe_int (fun _ _ => rfl)) (pe_callB (kLen (K := K) rfl) (by rfl) T.len PySem.boot_len (pa_cons (pv 0) pa_nil))))))))
          (pss_one /- 161 -/ (ps_ret pe_non))
          pss_nil)
        (pss_one /- 162 -/ (ps_set (i := 0) ND rfl (by first | exact .inl rfl | exact .inr rfl) (pe_call o_law_wiped.G (hr.mono (by first | decide | omega)) rfl o_law_wiped.D.g o_law_wiped.D.F.kp o_law_wiped.D.b .nil pass0 (pa_cons (pv 0) (pa_cons (pv 2) pa_nil)))))))
      (pss_one /- 163 -/ (ps_ret (pe_ifExp (pt_cmpR op_eq (pe_callB (kLen (K := K) rfl) (by rfl) T.len PySem.boot_len (pa_cons (pv 0) pa_nil)) pe_int (nomark _)) (pe_ix (kIxL (K := K) rfl) (pv 0) pe_int (fun _ _ => rfl)) pe_non)))), ?_⟩
    have hlen := hp.len
    refine q_forLn (ev_var rfl) (sq_of hl) (fun i σ' H' => ∃ y3 ph b, σ' = [some (.ref ph), some (.ref l), y3] ∧ Ex H H' ∧ H' ph = some (.lst (b.map V.int)) ∧ b.length ≤ 1000 ∧ leftB ns ps = leftB b (ps.drop i))
      (fun H2 e2 => ⟨none, a, ns, rfl, e2, e2 _ _ ha, hn, rfl⟩) (fun i σ' H' _ ⟨_, _, _, _, e, _⟩ => sq_of (e _ _ hl)) (fun i x σ' H' hx ⟨y3, ph, b, hs, e, hb, hbl, hL⟩ => ?_) (fun σ' H' ⟨y3, ph, b, hs, e, hb, hbl, hL⟩ => ?_)
    · subst hs
      obtain ⟨pr, t, hpr, rfl, ht⟩ := hp.get hx
      have ht' := e _ _ ht
      rw [drop_at hpr] at hL
      have hll : (b.map V.int).length = b.length := List.length_map _
      refine q_when (b := !true || (!decide (V.int ([.int pr.1, .int pr.2] : List V).length = V.int 2) || !(decide (0 ≤ pr.1) && (decide (pr.1 < pr.2) && decide (pr.2 < ((b.map V.int).length : Int)))))) (et_or (et_not (et_test (ev_isi (ev_var rfl) ev_c (fun H1 e1 => .base (.tup (e1 _ _ ht'))) (by decide +kernel)))) fun _ => et_or (et_test (ev_op (ev_lenT (ev_var rfl) (st_of ht')) ev_c (rv_ne rfl))) fun _ => et_not (et_test ?_)) (fun hb1 H2 e2 => ?_) (fun hb1 H2 e2 => ?_)
      · exact ev_chain3 ev_c (ev_op (ev_var rfl) ev_c (rv_ixT (st_of ht') rfl)) (ev_op (ev_var rfl) ev_c (rv_ixT (st_of ht') rfl)) (ev_len (ev_var rfl) (sq_of hb)) rv_I0 rv_I0 rv_I0
      · refine s_ret ev_c fun H3 e3 => ?_
        have : leftB ns ps = none := by
          rw [hL]
          refine leftB_no fun z => ?_
          rw [hll, decide_eq_true z.1, decide_eq_true z.2.1, decide_eq_true z.2.2] at hb1
          cases hb1
        rw [this] at q
        exact q H3 ((e.trans e2).trans e3)
      · have z : 0 ≤ pr.1 ∧ pr.1 < pr.2 ∧ pr.2 < b.length := by
          have hb2 : (!(decide (0 ≤ pr.1) && (decide (pr.1 < pr.2) && decide (pr.2 < ((b.map V.int).length : Int))))) = false := hb1
          rw [hll] at hb2
          simp only [Bool.not_eq_false', Bool.and_eq_true, decide_eq_true_eq] at hb2
          exact hb2
        refine s_asgL (el_call (ea_cons (ev_var rfl) (ea_cons (ev_var rfl) ea_nil)) (sl_wipedOf (e2 _ _ hb) (e2 _ _ ht') z.1 z.2.1 z.2.2 hbl)) fun p2 H3 hp2 e3 h3 => ?_
        have := wp_len z.1 z.2.1 z.2.2
        exact ⟨_, p2, _, rfl, (e.trans e2).trans e3, h3, by omega, by rw [hL, leftB_ok z]⟩
    · subst hs
      rw [hlen, List.drop_length] at hL
      have hll : (b.map V.int).length = b.length := List.length_map _
      refine s_ret (v := optV (leftB ns ps)) (ev_if (b := decide (V.int (((b.map V.int).length : Nat) : Int) = V.int 1)) (et_test (ev_op (ev_len (ev_var rfl) (sq_of hb)) ev_c (rv_eq rfl))) (fun h => ?_) (fun h => ?_)) fun H2 e2 => q H2 (e.trans e2)
      · have h1 : b.length = 1 := by
          have := V.int.inj (of_decide_eq_true h)
          omega
        rw [hL, show leftB b [] = some (b.getD 0 0) from if_pos h1]
        exact ev_op (ev_var rfl) ev_c (rv_ixL (sq_of hb) (at_int_i (i := 0) (by decide) (by omega)))
      · have h1 : ¬ b.length = 1 := fun z => of_decide_eq_false h (congrArg V.int (by rw [hll, z]; rfl))
        rw [hL, show leftB b [] = none from if_neg h1]
        exact ev_c
end
end Lw

--@ uses: math_cnt
namespace Lw
open PySem PySem.Spec PyProof.Rows L2 Evl
/-! ### boards with counts, as a dict with tuple keys holds them -/
def mD (m : List (List Int × Nat)) : List (List L2.Key × V) := m.map fun e => (kI e.1, V.int (e.2 : Int))
def getM (m : List (List Int × Nat)) (k : List Int) : Nat := ((m.find? fun e => decide (e.1 = k)).map (·.2)).getD 0
def addM (m : List (List Int × Nat)) (k : List Int) (c : Nat) : List (List Int × Nat) := if m.any (fun e => decide (e.1 = k)) = true then m.map (fun e => if e.1 = k then (e.1, getM m k + c) else e) else m ++ [(k, getM m k + c)]
theorem kI_eq {a b : List Int} : kI a = kI b ↔ a = b := ⟨kI_inj, fun h => by rw [h]⟩
theorem valV_mD (k : List Int) : ∀ m : List (List Int × Nat), valV (mD m) (kI k) = (m.find? fun e => decide (e.1 = k)).map fun e => V.int (e.2 : Int)
  | [] => rfl
  | e :: m => by
    show valV ((kI e.1, V.int (e.2 : Int)) :: mD m) (kI k) = _
    by_cases h : e.1 = k
    · rw [valV_pos (by rw [h]), List.find?_cons_of_pos (by simpa using h)]
      rfl
    · rw [valV_neg (fun z => h (kI_inj z)), List.find?_cons_of_neg (by simpa using h), valV_mD k m]
theorem valV_mD_getD (m : List (List Int × Nat)) (k : List Int) : (valV (mD m) (kI k)).getD (.int 0) = .int (getM m k) := by
  rw [valV_mD]
  unfold getM
  cases (m.find? fun e => decide (e.1 = k)) <;> rfl
theorem mD_add (m : List (List Int × Nat)) (k : List Int) (c : Nat) : putK (mD m) (kI k) (.int ((getM m k + c : Nat) : Int)) = mD (addM m k c) := by
  unfold putK addM mD
  have e : ((m.map fun e => (kI e.1, V.int (e.2 : Int))).any fun kv => decide (kv.1 = kI k)) = m.any fun e => decide (e.1 = k) := by
    rw [List.any_map]
    congr 1
    funext x
    exact decide_eq_decide.mpr kI_eq
  rw [e]
  by_cases h : (m.any fun e => decide (e.1 = k)) = true
  · rw [if_pos h, if_pos h, List.map_map, List.map_map]
    refine List.map_congr_left fun x _ => ?_
    show (if kI x.1 = kI k then (kI x.1, V.int ((getM m k + c : Nat) : Int)) else (kI x.1, V.int (x.2 : Int))) = (kI (if x.1 = k then (x.1, getM m k + c) else x).1, V.int ((if x.1 = k then (x.1, getM m k + c) else x).2 : Int))
    by_cases hx : x.1 = k
    · rw [if_pos (by rw [hx]), if_pos hx]
    · rw [if_neg (fun z => hx (kI_inj z)), if_neg hx]
  · rw [if_neg h, if_neg h, List.map_append]
    rfl
def sumM (g : List Int → Nat) (m : List (List Int × Nat)) : Nat := (m.map fun e => e.2 * g e.1).sum
theorem mem_any {m : List (List Int × Nat)} {k : List Int} : (m.any fun e => decide (e.1 = k)) = true ↔ k ∈ m.map (·.1) := by
  rw [List.any_eq_true, List.mem_map]
  exact ⟨fun ⟨x, h1, h2⟩ => ⟨x, h1, of_decide_eq_true h2⟩, fun ⟨x, h1, h2⟩ => ⟨x, h1, decide_eq_true h2⟩⟩
theorem getM_none {m : List (List Int × Nat)} {k : List Int} (h : k ∉ m.map (·.1)) : getM m k = 0 := by
  unfold getM
  have : (m.find? fun e => decide (e.1 = k)) = none := by
    rw [List.find?_eq_none]
    intro x hx hk
    exact h (List.mem_map.mpr ⟨x, hx, of_decide_eq_true hk⟩)
  rw [this]
  rfl
theorem addM_keys (m : List (List Int × Nat)) (k : List Int) (c : Nat) : (addM m k c).map (·.1) = if k ∈ m.map (·.1) then m.map (·.1) else m.map (·.1) ++ [k] := by
  unfold addM
  by_cases h : k ∈ m.map (·.1)
  · rw [if_pos (mem_any.mpr h), if_pos h, List.map_map]
    refine List.map_congr_left fun x _ => ?_
    show (if x.1 = k then (x.1, getM m k + c) else x).1 = x.1
    split <;> rfl
  · rw [if_neg (fun z => h (mem_any.mp z)), if_neg h, List.map_append]
    rfl
theorem addM_len (m : List (List Int × Nat)) (k : List Int) (c : Nat) : (addM m k c).length ≤ m.length + 1 := by
  unfold addM
  split
  · rw [List.length_map]; omega
  · rw [List.length_append]; exact Nat.le_refl _
theorem addM_nd {m : List (List Int × Nat)} {k : List Int} {c : Nat} (h : (m.map (·.1)).Nodup) : ((addM m k c).map (·.1)).Nodup := by
  rw [addM_keys]
  split
  · exact h
  · rename_i hk
    exact nd_snoc h hk
theorem getM_cons {e : List Int × Nat} {m : List (List Int × Nat)} {k : List Int} : getM (e :: m) k = if e.1 = k then e.2 else getM m k := by
  unfold getM
  by_cases h : e.1 = k
  · rw [List.find?_cons_of_pos (by simpa using h), if_pos h]
    rfl
  · rw [List.find?_cons_of_neg (by simpa using h), if_neg h]
theorem sumM_repl (g : List Int → Nat) (k : List Int) (y : Nat) : ∀ {m : List (List Int × Nat)}, (m.map (·.1)).Nodup → k ∈ m.map (·.1) → sumM g (m.map fun e => if e.1 = k then (e.1, y) else e) + getM m k * g k = sumM g m + y * g k
  | [], _, h => by cases h
  | e :: m, hn, h => by
    rw [List.map_cons, List.nodup_cons] at hn
    show ((if e.1 = k then (e.1, y) else e).2 * g (if e.1 = k then (e.1, y) else e).1 + sumM g (m.map fun e => if e.1 = k then (e.1, y) else e)) + getM (e :: m) k * g k = (e.2 * g e.1 + sumM g m) + y * g k
    rw [getM_cons]
    by_cases he : e.1 = k
    · have hk : k ∉ m.map (·.1) := he ▸ hn.1
      have e2 : m.map (fun e => if e.1 = k then (e.1, y) else e) = m := by
        conv => rhs; rw [← List.map_id m]
        refine List.map_congr_left fun x hx => ?_
        rw [if_neg (fun z : x.1 = k => hk (by rw [← z]; exact List.mem_map.mpr ⟨x, hx, rfl⟩))]
        rfl
      rw [e2, if_pos he, if_pos he, he]
      show y * g k + sumM g m + e.2 * g k = e.2 * g k + sumM g m + y * g k
      omega
    · have hm : k ∈ m.map (·.1) := by
        rcases List.mem_cons.mp h with z | z
        · exact absurd z.symm he
        · exact z
      have ih := sumM_repl g k y hn.2 hm
      rw [if_neg he, if_neg he]
      omega
theorem sumM_add (g : List Int → Nat) {m : List (List Int × Nat)} (k : List Int) (c : Nat) (hn : (m.map (·.1)).Nodup) : sumM g (addM m k c) = sumM g m + c * g k := by
  unfold addM
  by_cases h : k ∈ m.map (·.1)
  · rw [if_pos (mem_any.mpr h)]
    have z := sumM_repl g k (getM m k + c) hn h
    rw [Nat.add_mul] at z
    omega
  · rw [if_neg (fun z => h (mem_any.mp z)), getM_none h]
    unfold sumM
    rw [List.map_append, List.sum_append]
    simp
theorem addM_pos {m : List (List Int × Nat)} {k : List Int} {c : Nat} (hc : 0 < c) (h : ∀ e ∈ m, 0 < e.2) : ∀ e ∈ addM m k c, 0 < e.2 := by
  intro e he
  unfold addM at he
  split at he
  · obtain ⟨x, hx, rfl⟩ := List.mem_map.mp he
    split
    · show 0 < getM m k + c
      omega
    · exact h x hx
  · rcases List.mem_append.mp he with he | he
    · exact h e he
    · rw [List.mem_singleton.mp he]
      show 0 < getM m k + c
      omega
theorem addM_all {p : List Int → Prop} {m : List (List Int × Nat)} {k : List Int} {c : Nat} (hk : p k) (h : ∀ e ∈ m, p e.1) : ∀ e ∈ addM m k c, p e.1 := fun e he => by
  have : e.1 ∈ (addM m k c).map (·.1) := List.mem_map.mpr ⟨e, he, rfl⟩
  rw [addM_keys] at this
  have h' : ∀ x ∈ m.map (·.1), p x := fun x hx => by
    obtain ⟨y, hy, rfl⟩ := List.mem_map.mp hx
    exact h y hy
  split at this
  · exact h' _ this
  · rcases List.mem_append.mp this with z | z
    · exact h' _ z
    · rw [List.mem_singleton.mp z]
      exact hk
/-- one line behind another: n numbers left, all counts of b kept -/
structure Line (b : List Int) (n : Nat) (m : List (List Int × Nat)) : Prop where
  nd : (m.map (·.1)).Nodup
  pos : ∀ e ∈ m, 0 < e.2
  len : ∀ e ∈ m, e.1.length = n + 1
  sum : ∀ x, sumM (fun k => ways n k x) m = ways (b.length - 1) b x
  num : ∀ e ∈ m, ∀ y ∈ e.1, 0 ≤ y ∧ y ≤ 1000000
theorem Line.start {b : List Int} (h : 1 ≤ b.length) (hb : ∀ y ∈ b, 0 ≤ y ∧ y ≤ 1000000) : Line b (b.length - 1) [(b, 1)] := by
  refine ⟨by simp, fun e he => ?_, fun e he => ?_, fun x => ?_, fun e he => ?_⟩
  · rw [List.mem_singleton.mp he]; exact Nat.one_pos
  · rw [List.mem_singleton.mp he]; show b.length = b.length - 1 + 1; omega
  · unfold sumM
    simp
  · rw [List.mem_singleton.mp he]; exact hb
/-- the counts that the boards of a line, and the first j wipings of the next, bring on -/
structure More (b : List Int) (n : Nat) (m : List (List Int × Nat)) (m' : List (List Int × Nat)) (i : Nat) (j : Nat) : Prop where
  nd : (m'.map (·.1)).Nodup
  pos : ∀ e ∈ m', 0 < e.2
  len : ∀ e ∈ m', e.1.length = n + 1
  sum : ∀ x, sumM (fun k => ways n k x) m' = sumM (fun k => ways (n + 1) k x) (m.take i) + match m[i]? with
    | none => 0
    | some e => e.2 * (((pairsOf e.1.length).take j).map fun p => ways n (wp e.1 p.1 p.2) x).sum
  num : ∀ e ∈ m', ∀ y ∈ e.1, 0 ≤ y ∧ y ≤ 1000000
  few : m'.length ≤ 15 * i + j
theorem More.start (b : List Int) (n : Nat) (m : List (List Int × Nat)) : More b n m [] 0 0 := by
  refine ⟨List.nodup_nil, (fun e he => by cases he), (fun e he => by cases he), fun x => ?_, (fun e he => by cases he), Nat.le_refl _⟩
  cases m[0]? with
  | none => rfl
  | some e => rfl
theorem More.step {b : List Int} {n : Nat} {m m' : List (List Int × Nat)} {i j : Nat} {e : List Int × Nat} {p : Int × Int} (M : More b n m m' i j) (L : Line b (n + 1) m) (he : m[i]? = some e) (hp : (pairsOf e.1.length)[j]? = some p) :
    More b n m (addM m' (srt (wp e.1 p.1 p.2)) e.2) i (j + 1) := by
  have hem := List.mem_of_getElem? he
  obtain ⟨h0, h1, h2⟩ := pairs_mem (List.mem_of_getElem? hp)
  have hl := wp_len h0 h1 h2
  have le := L.len e hem
  have hs := srt_len (wp e.1 p.1 p.2)
  refine ⟨addM_nd M.nd, addM_pos (L.pos e hem) M.pos, addM_all (p := fun k => k.length = n + 1) (by omega) M.len, fun x => ?_, addM_all (p := fun k => ∀ y ∈ k, 0 ≤ y ∧ y ≤ 1000000) (fun y hy => wp_bound h0 h1 h2 (L.num e hem) y ((srt_perm _).mem_iff.mp hy)) M.num, ?_⟩
  · rw [sumM_add _ _ _ M.nd, M.sum, he]
    show _ + e.2 * _ + e.2 * ways n (srt (wp e.1 p.1 p.2)) x = _ + e.2 * _
    have e1 : ways n (srt (wp e.1 p.1 p.2)) x = ways n (wp e.1 p.1 p.2) x := ways_perm n x _ _ (srt_perm _)
    rw [List.take_add_one, hp, List.map_append, List.sum_append, e1, Nat.mul_add]
    simp
    omega
  · have := addM_len m' (srt (wp e.1 p.1 p.2)) e.2
    have := M.few
    omega
theorem More.turn {b : List Int} {n : Nat} {m m' : List (List Int × Nat)} {i : Nat} {e : List Int × Nat} (M : More b n m m' i (pairsOf e.1.length).length) (L : Line b (n + 1) m) (he : m[i]? = some e) (h15 : (pairsOf e.1.length).length ≤ 15) : More b n m m' (i + 1) 0 := by
  refine ⟨M.nd, M.pos, M.len, fun x => ?_, M.num, by have := M.few; omega⟩
  rw [M.sum, he, List.take_add_one, he]
  have z : (match m[i + 1]? with
    | none => 0
    | some e => e.2 * (((pairsOf e.1.length).take 0).map fun p => ways n (wp e.1 p.1 p.2) x).sum) = 0 := by
    cases m[i + 1]? with
    | none => rfl
    | some e => rfl
  rw [z]
  show _ + e.2 * _ = _
  unfold sumM
  rw [List.take_length, List.map_append, List.sum_append]
  simp
  rfl
theorem More.line {b : List Int} {n : Nat} {m m' : List (List Int × Nat)} (M : More b n m m' m.length 0) (L : Line b (n + 1) m) : Line b n m' := by
  refine ⟨M.nd, M.pos, M.len, fun x => ?_, M.num⟩
  rw [M.sum, List.take_length, List.getElem?_eq_none (Nat.le_refl _), L.sum]
  rfl
/-- at the end -/
theorem Line.last {b : List Int} {m : List (List Int × Nat)} (h1 : 1 ≤ b.length) (L : Line b 0 m) (x : Int) : getM m [x] = wys b x := by
  unfold wys
  rw [← L.sum x]
  have h := L.len
  have hn := L.nd
  clear L
  induction m with
  | nil => rfl
  | cons e m ih =>
    rw [List.map_cons, List.nodup_cons] at hn
    rw [getM_cons]
    have ih := ih (fun e he => h e (List.mem_cons_of_mem _ he)) hn.2
    show _ = e.2 * (if e.1 = [x] then 1 else 0) + sumM (fun k => ways 0 k x) m
    by_cases he : e.1 = [x]
    · have hk : [x] ∉ m.map (·.1) := he ▸ hn.1
      rw [if_pos he, if_pos he, ← ih, getM_none hk]
      omega
    · rw [if_neg he, if_neg he, ih]
      omega
end Lw

--@ uses: math_pairs
namespace Lw
section
variable {P : Program} {w : World} {K : PySem.W.Frag} {mg : Str → Option Value} {base : Heap}
def spLawPairs : Sp := fun vs H Q _ => ∃ n : Nat, vs = [.int n] ∧ n ≤ 6 ∧ RetX (NP (pairsOf n)) H Q
theorem ok_law_pairs {f : Addr} {fd : FuncData} (D : Df K mg "_law_pairs" s_law_pairs ["_law_many"] f fd) (T : Blt mg) : FnOk P w K mg base CX0 1 f fd ["_law_many"] spLawPairs := by
  have ND := sc_law_pairs.nd
  refine D.F.ok sc_law_pairs (fun vs H Q E h => ?_) (fun cdv A outer s H vs Q E hr h => ?_)
  · obtain ⟨n, rfl, _⟩ := h
    rfl
  · obtain ⟨n, rfl, h6, q⟩ := h
    refine ⟨_, (pss_cons /- 141 -/ (ps_set (i := 1) ND rfl (by first | exact .inl rfl | exact .inr rfl) (pe_lst pa_nil))
      (pss_cons /- 142 -/ (ps_for PassesOwn.never rfl (pi_range1 (by rfl) T.range (pa_cons (pv 0) pa_nil)) (pg_name (i := 2) ND rfl (by first | exact .inl rfl | exact .inr rfl))
        (pss_one /- 143 -/ (ps_expr (pe_bm PySem.F.plainAttrs_list PySem.F.slot_list_extend PySem.F.type_list_extend mt_extend (pv 1) (pa_cons (pe_lc (own := [("_law_one", 3)]) (by rfl) ND (pi_range1 (by rfl) T.range (pa_cons (pv 2) pa_nil)) (blkOk_by (own := [("_law_one", 3)]) (N := ["_law_many", "_law_found", "_law_other", "_law_one"]) (sc := defScope s_law_pairs) (by decide +kernel)) (fun _ _ _ _ _ => (pg_name (i := 3) ND rfl (.inl rfl))) (fun _ _ _ _ _ => pts_nil) (fun _ _ _ _ _ => (pe_tup (pa_cons (pv 3) (pa_cons (pv 2) pa_nil))))) pa_nil)))))
      (pss_one /- 144 -/ (ps_ret (pe_callB (kSortP (K := K) rfl) (by rfl) T.sorted (by decide +kernel) (pa_cons (pv 1) pa_nil)))))), ?_⟩
    refine q_asgL (el_lst ea_nil (by decide)) fun p H1 hp e1 h1' => ?_
    have raw : ∀ j, pairsRaw (j + 1) = pairsRaw j ++ (List.range j).map fun (i : Nat) => ((i : Int), (j : Int)) := fun j => by
      unfold pairsRaw
      rw [List.range_succ, List.flatMap_append]
      simp
    have rawl : ∀ j, j ≤ 6 → (pairsRaw j).length ≤ 15 := fun j hj => by
      rcases j with _ | _ | _ | _ | _ | _ | _ | j
      all_goals first | decide | (exfalso; omega)
    refine q_forR1 (n := (n : Int)) (ea_cons (ev_var rfl) ea_nil) (by omega) (fun m σ' H' => ∃ y2 y3, σ' = [some (.int n), some (.ref p), y2, y3] ∧ Ex H H' ∧ ∃ vs, H' p = some (.lst vs) ∧ Prs H' vs (pairsRaw m))
      (fun H2 e2 => ⟨none, none, rfl, e1.trans e2, [], e2 _ _ h1', .nil⟩) (fun m σ' H' hm ⟨y2, y3, hs, e, vs, hv, hr⟩ => ?_) (fun σ' H' ⟨y2, y3, hs, e, vs, hv, hr⟩ => ?_)
    · subst hs
      have hl := rawl m (by omega)
      refine s_extP (l := p) (qs := (List.range m).map fun (i : Nat) => ((i : Int), (m : Int))) hv hr (ev_var rfl) ?_ (by rw [List.length_map, List.length_range]; omega) fun H3 ws e3 hw => ⟨_, _, rfl, Ex.mut (e.trans e3) hp, ws, upd_same, ?_⟩
      · have e0 : (List.range m).map (fun (i : Nat) => ((i : Int), (m : Int))) = ((List.range (m : Int).toNat).filter fun _ => true).map (fun (i : Nat) => ((i : Int), (m : Int))) := by
          rw [List.filter_eq_self.mpr (fun _ _ => rfl), Int.toNat_natCast]
        rw [e0]
        refine ep_lcP (fun _ => true) _ (ei_r1 (m := (m : Int)) (ea_cons (ev_var rfl) ea_nil) (by omega)) (by omega) (fun i x H2 H3 e2 hi y => ?_) gm_name
        obtain ⟨rfl, rfl⟩ := y
        exact ⟨rfl, Ex.refl _, et_yes, fun _ => eu_tup (ea_cons (ev_var rfl) (ea_cons (ev_var rfl) ea_nil)) (by show 2 ≤ 100000; decide)⟩
      · rw [raw]
        exact hw
    · subst hs
      rw [Int.toNat_natCast] at hr
      obtain ⟨z1, z2⟩ := pairs_six n h6
      refine s_retX (ex_sortP (ev_var rfl) hv hr z1 z2) fun v H3 e3 hv3 => q v H3 (e.trans e3) (back_P _ _ _ _ e hv3)
theorem sx_lawPairs {n : Nat} {H : Hp} (h : n ≤ 6) : SpX spLawPairs [.int n] H (NP (pairsOf n)) := fun H1 e Q q E => ⟨n, rfl, h, q⟩
end
end Lw

--@ uses: math_tally law_wiped law_pairs math_cnt
namespace Lw
section
variable {P : Program} {w : World} {K : PySem.W.Frag} {mg : Str → Option Value} {base : Heap}
theorem val_nd {κ : Type} [DecidableEq κ] : ∀ {kvs : List (κ × V)}, (kvs.map (·.1)).Nodup → ∀ p ∈ kvs, valV kvs p.1 = some p.2
  | [], _, _, h => by cases h
  | e :: kvs, hn, p, h => by
    rw [List.map_cons, List.nodup_cons] at hn
    rcases List.mem_cons.mp h with z | z
    · rw [z, valV_pos rfl]
    · rw [valV_neg (fun y => hn.1 (by rw [y]; exact List.mem_map.mpr ⟨p, z, rfl⟩)), val_nd hn.2 p z]
theorem mD_nd {m : List (List Int × Nat)} (h : (m.map (·.1)).Nodup) : ((mD m).map (·.1)).Nodup := by
  unfold mD
  rw [List.map_map]
  have : ((fun e : List L2.Key × V => e.1) ∘ fun e : List Int × Nat => (kI e.1, V.int (e.2 : Int))) = kI ∘ fun e => e.1 := rfl
  rw [this, ← List.map_map]
  exact List.Pairwise.map _ (fun a b hab z => hab (kI_inj z)) h
theorem mD_at {m : List (List Int × Nat)} {i : Nat} {k : List L2.Key} {v : V} (h : (mD m)[i]? = some (k, v)) : ∃ e, m[i]? = some e ∧ k = kI e.1 ∧ v = .int (e.2 : Int) := by
  unfold mD at h
  rw [List.getElem?_map] at h
  cases e : m[i]? with
  | none => rw [e] at h; cases h
  | some x =>
    rw [e] at h
    have := Option.some.inj h
    exact ⟨x, rfl, (Prod.mk.inj this).1.symm, (Prod.mk.inj this).2.symm⟩
theorem mD_val {m : List (List Int × Nat)} {e : List Int × Nat} (hn : (m.map (·.1)).Nodup) (h : e ∈ m) : valV (mD m) (kI e.1) = some (.int (e.2 : Int)) :=
  val_nd (mD_nd hn) (kI e.1, V.int (e.2 : Int)) (List.mem_map.mpr ⟨e, h, rfl⟩)
theorem getM_snoc {m : List (List Int × Nat)} {e : List Int × Nat} (h : e.1 ∉ m.map (·.1)) (k : List Int) : getM (m ++ [e]) k = if k = e.1 then e.2 else getM m k := by
  induction m with
  | nil =>
    show getM [e] k = _
    rw [getM_cons]
    by_cases hk : e.1 = k
    · rw [if_pos hk, if_pos hk.symm]
    · rw [if_neg hk, if_neg (fun z => hk z.symm)]
  | cons a m ih =>
    rw [List.map_cons, List.mem_cons, not_or] at h
    rw [List.cons_append, getM_cons, getM_cons, ih h.2]
    by_cases ha : a.1 = k
    · rw [if_pos ha, if_pos ha, if_neg (fun z => h.1 (by rw [ha, z]))]
    · rw [if_neg ha, if_neg ha]
def spLawTally : Sp := fun vs H Q _ => ∃ (a : Addr) (ns : List Int), vs = [.ref a] ∧ H a = some (.lst (ns.map V.int)) ∧ Board ns ∧ RetX (NCnt ns) H Q
theorem ok_law_tally {f f1 f2 : Addr} {fd fd1 fd2 : FuncData} (D : Df K mg "_law_tally" s_law_tally ["_law_board_here"] f fd) (T : Blt mg)
    (o_law_pairs : Ok P w K mg base CX0 1 "_law_pairs" s_law_pairs ["_law_many"] spLawPairs f1 fd1)
    (o_law_wiped : Ok P w K mg base CX0 1 "_law_wiped" s_law_wiped ["_law_board_here", "_law_pair"] spWipedOf f2 fd2) : FnOk P w K mg base CX0 2 f fd ["_law_board_here"] spLawTally := by
  have ND := sc_law_tally.nd
  refine D.F.ok sc_law_tally (fun vs H Q E h => ?_) (fun cdv A outer s H vs Q E hr h => ?_)
  · obtain ⟨a, ns, rfl, _⟩ := h
    rfl
  · obtain ⟨a, ns, rfl, ha, hB, q⟩ := h
    have hu := hu_of hr
    refine ⟨_, (pss_cons /- 146 -/ (ps_set (i := 1) ND rfl (by first | exact .inl rfl | exact .inr rfl) (pe_dispT1 hr.units (pe_callTy (kTup' (K := K) rfl) (by rfl) T.tuple (by decide +kernel) (pa_cons (pv 0) pa_nil)) pe_int))
      (pss_cons /- 147 -/ (ps_for PassesOwn.never rfl (pi_range1 (by rfl) T.range (pa_cons (pe_op op_sub (pe_callB (kLen (K := K) rfl) (by rfl) T.len PySem.boot_len (pa_cons (pv 0) pa_nil)) pe_int) pa_nil)) (pg_name (i := 2) ND rfl (by first | exact .inl rfl | exact .inr rfl))
        (pss_cons /- 148 -/ (ps_set (i := 3) ND rfl (by first | exact .inl rfl | exact .inr rfl) pe_dnewT)
        (pss_cons /- 149 -/ (ps_lock (ps_for PassesOwn.never rfl (pi_keys (pv 1)) (pg_name (i := 4) ND rfl (by first | exact .inl rfl | exact .inr rfl))
          (pss_one /- 150 -/ (ps_for PassesOwn.never rfl (pi_list (pe_call o_law_pairs.G (hr.mono (by first | decide | omega)) rfl o_law_pairs.D.g o_law_pairs.D.F.kp o_law_pairs.D.b .nil pass0 (pa_cons (pe_callB (kLen (K := K) rfl) (by rfl) T.len PySem.boot_len (pa_cons (pv 4) pa_nil)) pa_nil))) (pg_name (i := 5) ND rfl (by first | exact .inl rfl | exact .inr rfl))
            (pss_cons /- 151 -/ (ps_set (i := 6) ND rfl (by first | exact .inl rfl | exact .inr rfl) (pe_callTy (kTup' (K := K) rfl) (by rfl) T.tuple (by decide +kernel) (pa_cons (pe_callB (kSortI (K := K) rfl) (by rfl) T.sorted (by decide +kernel) (pa_cons (pe_call o_law_wiped.G (hr.mono (by first | decide | omega)) rfl o_law_wiped.D.g o_law_wiped.D.F.kp o_law_wiped.D.b .nil pass0 (pa_cons (pe_callTy (kList (K := K) rfl) (by rfl) T.list (by decide +kernel) (pa_cons (pv 4) pa_nil)) (pa_cons (pv 5) pa_nil))) pa_nil)) pa_nil)))
            (pss_one /- 152 -/ (ps_dput hu (pv 3) (pv 6) (pe_op op_add (pe_dget2 hu (pv 3) (pv 6) pe_int ⟨rfl, rfl, rfl, rfl⟩) (pe_dget hu (pv 1) (pv 4) (fun _ _ => rfl))) rfl)))))))
        (pss_one /- 153 -/ (ps_set (i := 1) ND rfl (by first | exact .inl rfl | exact .inr rfl) (pv 3))))))
      (pss_cons /- 154 -/ (ps_set (i := 7) ND rfl (by first | exact .inl rfl | exact .inr rfl) pe_dnewK)
      (pss_cons /- 155 -/ (ps_lock (ps_for PassesOwn.never rfl (pi_keys (pv 1)) (pg_name (i := 4) ND rfl (by first | exact .inl rfl | exact .inr rfl))
        (pss_one /- 156 -/ (ps_dput hu (pv 7) (pe_ix (kIxT (K := K) rfl) (pv 4) pe_int (fun _ _ => rfl)) (pe_dget hu (pv 1) (pv 4) (fun _ _ => rfl)) rfl))))
      (pss_one /- 157 -/ (ps_ret (pv 7))))))), ?_⟩
    have hl : (ns.map V.int).length = ns.length := List.length_map _
    have b1 := hB.one
    have b6 := hB.six
    refine q_asgX (ex_dispT1 (ns := ns) (eu_tupL (ev_var rfl) (sq_of ha)) ev_c) fun v H1 e1 hv => ?_
    obtain ⟨d0, rfl, hd0, hd1⟩ := hv
    refine q_forR1 (n := (ns.length : Int) - 1) (ea_cons (ev_is (ev_op (ev_len (ev_var rfl) (sq_of (e1 _ _ ha))) ev_c rv_I0) (by rw [hl])) ea_nil) (by omega)
      (fun t σ' H' => ∃ y2 y3 y4 y5 y6 y7 d m, σ' = [some (.ref a), some (.ref d), y2, y3, y4, y5, y6, y7] ∧ Ex H H' ∧ H d = none ∧ H' d = some (.dT (mD m)) ∧ Line ns (ns.length - 1 - t) m ∧ m.length ≤ 15 ^ t)
      (fun H2 e2 => ⟨none, none, none, none, none, none, d0, [(ns, 1)], rfl, e1.trans e2, hd0, e2 _ _ hd1, by rw [Nat.sub_zero]; exact Line.start b1 hB.num, Nat.le_refl _⟩)
      (fun t σ' H2 ht ⟨y2, y3, y4, y5, y6, y7, d, m, hs, e2, hdn, hd, L, hm15⟩ => ?_) (fun σ' H2 ⟨y2, y3, y4, y5, y6, y7, d, m, hs, e2, hdn, hd, L, hm15⟩ => ?_)
    · subst hs
      have ht5 : t ≤ 4 := by omega
      have p15 : 15 ^ t ≤ 15 ^ 4 := Nat.pow_le_pow_right (by decide) ht5
      have p15' : (15 : Nat) ^ 4 = 50625 := by decide
      obtain ⟨n, hn⟩ : ∃ n, ns.length - 1 - t = n + 1 := ⟨ns.length - 1 - t - 1, by omega⟩
      have hn' : ns.length - 1 - (t + 1) = n := by omega
      rw [hn] at L
      refine q_asgX ex_newT fun v H3 e3 hv => ?_
      obtain ⟨mo, rfl, hmn, hmo⟩ := hv
      have hd3 := e3 _ _ hd
      have mod : mo ≠ d := fun z => by rw [z, hd] at hmn; cases hmn
      have hmn0 := fresh_back e2 hmn
      refine q_forKT (i := 1) (j := 4) rfl hd3 (fun od i σ' H' => ∃ y4 y5 y6 m', σ' = [some (.ref a), some (.ref d), some (.int t), some (.ref mo), y4, y5, y6, y7] ∧ ExS [d, mo] H3 H' ∧ H' d = some (.frz od (.dT (mD m))) ∧ H' mo = some (.dT (mD m')) ∧ More ns n m m' i 0)
        (fun od => ⟨_, _, _, [], rfl, (ExS.refl _).put List.mem_cons_self, upd_same, by rw [upd_ne mod]; exact hmo, More.start ns n m⟩) (fun od i σ' H' ⟨_, _, _, _, _, _, h, _⟩ => h)
        (fun od i k v qa σ' H' hkv hq ⟨z4, z5, z6, m', hs, s4, hdf, hmo', M⟩ => ?_) (fun od σ' H' ⟨z4, z5, z6, m', hs, s4, hdf, hmo', M⟩ => ?_)
      · subst hs
        obtain ⟨e, he, rfl, rfl⟩ := mD_at hkv
        have hem := List.mem_of_getElem? he
        have hi := (List.getElem?_eq_some_iff.mp he).1
        rw [kI_V] at hq
        have hle := L.len e hem
        have le6 : e.1.length ≤ 6 := by omega
        have h15 := pairs_len_six le6
        have hll : (e.1.map V.int).length = e.1.length := List.length_map _
        refine s_forP (ex_call back_P (ea_cons (ev_is (ev_lenT (ev_var rfl) (st_of hq)) (show V.int (((e.1.map V.int).length : Nat) : Int) = V.int (e.1.length : Int) by rw [hll])) ea_nil) (sx_lawPairs le6)) fun p xs H5 hp0 e5 hxs hps => ?_
        have hq5 := e5 _ _ hq
        have hdf5 := e5 _ _ hdf
        have hmo5 := e5 _ _ hmo'
        refine ⟨fun j σ' H'' => ∃ y5 y6 m'', σ' = [some (.ref a), some (.ref d), some (.int t), some (.ref mo), some (.ref qa), y5, y6, y7] ∧ ExS [mo] H5 H'' ∧ H'' mo = some (.dT (mD m'')) ∧ More ns n m m'' i j,
          ⟨_, _, m', rfl, ExS.refl _, hmo5, M⟩, fun j σ' H'' ⟨_, _, _, _, s, _⟩ => s p _ (by simp only [List.mem_singleton]; exact ne_of hxs hmo5 (fun z => nomatch z)) hxs, fun j pr tt σ' H'' hpr ht ⟨u5, u6, m'', hs, s6, hmo6, M'⟩ => ?_, fun σ' H'' ⟨u5, u6, m'', hs, s6, hmo6, M'⟩ => ?_⟩
        · subst hs
          obtain ⟨p0, p1, p2⟩ := pairs_mem (List.mem_of_getElem? hpr)
          have hj := (List.getElem?_eq_some_iff.mp hpr).1
          have hq6 := s6 qa _ (by simp only [List.mem_singleton]; exact ne_of hq5 hmo5 (fun z => nomatch z)) hq5
          have ht6 := s6 tt _ (by simp only [List.mem_singleton]; exact ne_of ht hmo5 (fun z => nomatch z)) ht
          have hdf6 := s6 d _ (by simp only [List.mem_singleton]; exact Ne.symm mod) hdf5
          refine q_asgU (xs := (srt (wp e.1 pr.1 pr.2)).map V.int) (eu_tupN (el_sortIN (el_x (exx_call back_L (RA := fun vs H2 => ∃ pl, vs = [.ref pl, .ref tt] ∧ H2 pl = some (.lst (e.1.map V.int)) ∧ H2 tt = some (.tup [.int pr.1, .int pr.2]))
            (eax_l (el_listT (ev_var rfl) (st_of hq6)) fun pl H7 e7 hpl => eax_v (ev_var rfl) (eax_nil fun H8 e8 => ⟨pl, rfl, e8 _ _ hpl, e8 _ _ (e7 _ _ ht6)⟩))
            fun vs H7 e7 hvs => by
              obtain ⟨pl, rfl, h1, h2⟩ := hvs
              exact sp_lx (sl_wipedOf h1 h2 p0 p1 p2 (by omega)))))) fun kt H7 _ e7 hkt => ?_
          have hmo7 := e7 _ _ hmo6
          have few := M'.few
          refine s_dputT (v := .int (((getM m'' (srt (wp e.1 pr.1 pr.2)) + e.2 : Nat) : Nat) : Int)) (ev_is (ev_op (ev_is (ev_dget2T (ev_var rfl) (ev_var rfl) ev_c hkt (.inl hmo7)) (valV_mD_getD _ _)) (ev_dgetT (ev_var rfl) (ev_var rfl) (e7 _ _ hq6) (.inr ⟨od, e7 _ _ hdf6⟩) (mD_val L.nd hem)) rv_I0) (congrArg V.int (by omega))) (ev_var rfl) (ev_var rfl) hkt hmo7 ?_ fun H8 e8 => ?_
          · unfold mD
            rw [List.length_map]
            omega
          · rw [mD_add]
            exact ⟨_, _, _, rfl, (s6.trans (ExS.of (e7.trans e8))).put List.mem_cons_self, upd_same, M'.step L he hpr⟩
        · subst hs
          refine ⟨_, _, _, m'', rfl, (s4.trans (ExS.of e5)).trans (s6.more (by simp)), s6 d _ (by simp only [List.mem_singleton]; exact Ne.symm mod) hdf5, hmo6, M'.turn L he h15⟩
      · subst hs
        have hml : (mD m).length = m.length := List.length_map _
        rw [hml] at M
        have few := M.few
        refine s_asg (v := .ref mo) (ev_var rfl) fun H5 e5 => ?_
        refine ⟨_, _, _, _, _, _, mo, m', rfl, ?_, hmn0, e5 _ _ ?_, ?_, ?_⟩
        · refine Ex.trans (ExS.ex (ms := [d, mo]) (e2.trans e3) (s4.put List.mem_cons_self) fun x hx => ?_) e5
          rcases List.mem_cons.mp hx with z | hx
          · rw [z]; exact hdn
          · rw [List.mem_singleton.mp hx]; exact hmn0
        · rw [upd_ne mod]
          exact hmo'
        · rw [hn']
          exact M.line L
        · rw [Nat.pow_succ]
          omega
    · subst hs
      rw [show ((ns.length : Int) - 1).toNat = ns.length - 1 by omega, Nat.sub_self] at L
      rw [show ((ns.length : Int) - 1).toNat = ns.length - 1 by omega] at hm15
      refine q_asgX ex_newK fun v H3 e3 hv => ?_
      obtain ⟨fo, rfl, hfn, hfo⟩ := hv
      have hd3 := e3 _ _ hd
      have fod : fo ≠ d := fun z => by rw [z, hd] at hfn; cases hfn
      have hfn0 := fresh_back e2 hfn
      refine q_forKT (i := 1) (j := 4) rfl hd3 (fun od i σ' H' => ∃ y4 fs, σ' = [some (.ref a), some (.ref d), y2, y3, y4, y5, y6, some (.ref fo)] ∧ ExS [d, fo] H3 H' ∧ H' d = some (.frz od (.dT (mD m))) ∧ H' fo = some (.dK fs) ∧ Cnt fs (fun x => getM (m.take i) [x]) ∧ fs.length ≤ i)
        (fun od => ⟨_, [], rfl, (ExS.refl _).put List.mem_cons_self, upd_same, by rw [upd_ne fod]; exact hfo, Cnt.nil.congr fun x => rfl, Nat.le_refl _⟩) (fun od i σ' H' ⟨_, _, _, _, h, _⟩ => h)
        (fun od i k v qa σ' H' hkv hq ⟨z4, fs, hs, s4, hdf, hfo', hC, hfl⟩ => ?_) (fun od σ' H' ⟨z4, fs, hs, s4, hdf, hfo', hC, hfl⟩ => ?_)
      · subst hs
        obtain ⟨e, he, rfl, rfl⟩ := mD_at hkv
        have hem := List.mem_of_getElem? he
        have hi := (List.getElem?_eq_some_iff.mp he).1
        rw [kI_V] at hq
        obtain ⟨x, hx⟩ := List.length_eq_one_iff.mp (L.len e hem)
        rw [hx] at hq
        have p5 : 15 ^ (ns.length - 1) ≤ 15 ^ 5 := Nat.pow_le_pow_right (by decide) (by omega)
        have p5' : (15 : Nat) ^ 5 = 759375 := by decide
        refine s_dputK (v := .int (e.2 : Int)) (n := x) (ev_dgetT (ev_var rfl) (ev_var rfl) (ns := e.1) (by rw [hx]; exact hq) (.inr ⟨od, hdf⟩) (mD_val L.nd hem)) (ev_var rfl) (ev_op (ev_var rfl) ev_c (rv_ixT (st_of hq) rfl)) hfo' (by omega) fun H5 e5 => ?_
        refine ⟨_, _, rfl, (s4.trans (ExS.of e5)).put (List.mem_cons_of_mem _ List.mem_cons_self), by rw [upd_ne (Ne.symm fod)]; exact e5 _ _ hdf, upd_same, ?_, ?_⟩
        · refine (hC.put (x := x) (c := e.2) (L.pos e hem)).congr fun y => ?_
          rw [List.take_add_one, he]
          have hnot : e.1 ∉ (m.take i).map (·.1) := fun hm => by
            obtain ⟨e', he', hee⟩ := List.mem_map.mp hm
            obtain ⟨j, hj, hje⟩ := List.mem_iff_getElem.mp he'
            rw [List.length_take] at hj
            rw [List.getElem_take] at hje
            have h1 : (m.map (·.1))[j]? = some e.1 := by rw [List.getElem?_map, List.getElem?_eq_getElem (by omega), hje]; exact congrArg some hee
            have h2 : (m.map (·.1))[i]? = some e.1 := by rw [List.getElem?_map, he]; rfl
            have := nd_ix L.nd h1 h2
            omega
          show _ = getM (m.take i ++ [e]) [y]
          rw [getM_snoc hnot, hx]
          by_cases hy : y = x
          · rw [if_pos hy, if_pos (by rw [hy])]
          · rw [if_neg hy, if_neg (fun z => hy (List.cons.inj z).1)]
        · have := length_putK fs (Sum.inl x : L2.Key) (.int (e.2 : Int))
          omega
      · subst hs
        have hml : (mD m).length = m.length := List.length_map _
        rw [hml, List.take_length] at hC
        refine s_ret (ev_var rfl) fun H5 e5 => q _ H5 (Ex.trans (ExS.ex (ms := [d, fo]) (e2.trans e3) (s4.put List.mem_cons_self) fun x hx => ?_) e5) ⟨fo, fs, rfl, hfn0, e5 _ _ (by rw [upd_ne fod]; exact hfo'), hC.congr fun x => L.last b1 x⟩
        rcases List.mem_cons.mp hx with z | hx
        · rw [z]; exact hdn
        · rw [List.mem_singleton.mp hx]; exact hfn0
theorem sx_lawTally {a : Addr} {ns : List Int} {H : Hp} (ha : H a = some (.lst (ns.map V.int))) (hB : Board ns) : SpX spLawTally [.ref a] H (NCnt ns) := fun H1 e Q q E => ⟨a, ns, rfl, e _ _ ha, hB, q⟩
end
end Lw

--@ uses: law_left law_tally sp_answer
namespace Lw
section
variable {P : Program} {w : World} {K : PySem.W.Frag} {mg : Str → Option Value} {base : Heap}
def spLawDue (CL CN : Addr) : Sp := fun vs H Q _ => ∃ (a r : Addr) (x : Int) (ns : List Int), vs = [.ref a, .int x, .ref r] ∧ H a = some (.lst (ns.map V.int)) ∧ Board ns ∧
  ((∃ dx fs, H r = some (.ins CN dx fs) ∧ RetV (.bl (decide (wys ns x = 0))) H Q) ∨ ∃ (dx l : Addr) (ws : List V) (ps : List (Int × Int)), H r = some (.ins CL dx (fW l)) ∧ H l = some (.lst ws) ∧ Prs H ws ps ∧ RetV (.bl (decide (leftB ns ps = some x))) H Q)
theorem ok_law_due {f f1 f2 CA CL CN fi : Addr} {fd fd1 fd2 : FuncData} (D : Df K mg "_law_due" s_law_due ["_law_board_here", "_law_last", "_law_answer"] f fd) (T : Blt mg) (A : Ans K mg CA CL CN fi)
    (o_law_tally : Ok P w K mg base CX0 2 "_law_tally" s_law_tally ["_law_board_here"] spLawTally f1 fd1)
    (o_law_left : Ok P w K mg base CX0 2 "_law_left" s_law_left ["_law_board_here", "_law_pairs_here"] spLeft f2 fd2) : FnOk P w K mg base CX0 3 f fd ["_law_board_here", "_law_last", "_law_answer"] (spLawDue CL CN) := by
  have ND := sc_law_due.nd
  refine D.F.ok sc_law_due (fun vs H Q E h => ?_) (fun cdv Ar outer s H vs Q E hr h => ?_)
  · obtain ⟨a, r, x, ns, rfl, _⟩ := h
    rfl
  · obtain ⟨a, r, x, ns, rfl, ha, hB, h⟩ := h
    have hu := hu_of hr
    refine ⟨_, (pss_cons /- 165 -/ (ps_if (pt_val (pe_callB (kIsi (K := K) rfl) (by rfl) T.isinstance (by decide +kernel) (pa_cons (pv 2) (pa_cons (pe_glob (v := .ref _) rfl A.g_Never rfl) pa_nil))))
        (pss_one /- 166 -/ (ps_ret (pe_cmp (pc_dnotin hu (pv 1) (pe_call o_law_tally.G (hr.mono (by first | decide | omega)) rfl o_law_tally.D.g o_law_tally.D.F.kp o_law_tally.D.b .nil pass0 (pa_cons (pv 0) pa_nil))))))
        pss_nil)
      (pss_one /- 167 -/ (ps_ret (pe_cmpR op_eq (pe_call o_law_left.G (hr.mono (by first | decide | omega)) rfl o_law_left.D.g o_law_left.D.F.kp o_law_left.D.b .nil pass0 (pa_cons (pv 0) (pa_cons (pe_fld (pv 2) rfl) pa_nil))) (pv 1) (nomark _))))), ?_⟩
    have b6 := hB.six
    rcases h with ⟨dx, fs, hr1, q⟩ | ⟨dx, l, ws, ps, hr1, hl, hps, q⟩
    · refine q_when (b := true) (et_B (ev_isiO (ev_var rfl) ev_c (fun H1 e1 => A.N.isTy (e1 _ _ hr1)) A.nn)) (fun _ H1 e1 => ?_) (fun h => nomatch h)
      exact s_ret (ev_dninN (ev_var rfl) (ex_call back_Cnt (ea_cons (ev_var rfl) ea_nil) (sx_lawTally (e1 _ _ ha) hB)) fun _ _ _ h => ncnt_not h) fun H2 e2 => q H2 (e1.trans e2)
    · refine q_when (b := false) (et_B (ev_isiO (ev_var rfl) ev_c (fun H1 e1 => A.L.isTy (e1 _ _ hr1)) A.ln)) (fun h => nomatch h) (fun _ H1 e1 => ?_)
      exact s_ret (ev_is (ev_op (ev_call (ea_cons (ev_var rfl) (ea_cons (ev_fld (ev_var rfl) (e1 _ _ hr1) A.L.cl A.nw (fW_look l)) ea_nil)) (sv_left (e1 _ _ ha) (e1 _ _ hl) (hps.mono e1) (by omega))) (ev_var rfl) (rv_eq (optV_scal _ _))) (congrArg V.bl (optV_eq _ _))) fun H2 e2 => q H2 (e1.trans e2)
theorem sv_dueN {CL CN a r dx : Addr} {x : Int} {ns : List Int} {H : Hp} {fs : List (Str × V)} (ha : H a = some (.lst (ns.map V.int))) (hB : Board ns) (hr : H r = some (.ins CN dx fs)) : SpV (spLawDue CL CN) [.ref a, .int x, .ref r] H (.bl (decide (wys ns x = 0))) :=
  fun H1 e Q q E => ⟨a, r, x, ns, rfl, e _ _ ha, hB, .inl ⟨dx, fs, e _ _ hr, q⟩⟩
theorem sv_dueL {CL CN a r dx l : Addr} {x : Int} {ns : List Int} {H : Hp} {ws : List V} {ps : List (Int × Int)} (ha : H a = some (.lst (ns.map V.int))) (hB : Board ns) (hr : H r = some (.ins CL dx (fW l))) (hl : H l = some (.lst ws)) (hp : Prs H ws ps) : SpV (spLawDue CL CN) [.ref a, .int x, .ref r] H (.bl (decide (leftB ns ps = some x))) :=
  fun H1 e Q q E => ⟨a, r, x, ns, rfl, e _ _ ha, hB, .inr ⟨dx, l, ws, ps, e _ _ hr, e _ _ hl, hp.mono e, q⟩⟩
end
end Lw

--@ uses: math_cnt math_lasts
namespace Lw
open PySem PySem.Spec PyProof.Rows L2 Evl
/-! ### how many unlike boards -/
def putB (ks : List (List Int)) (k : List Int) : List (List Int) := if k ∈ ks then ks else ks ++ [k]
def putAll (ks : List (List Int)) (ns : List (List Int)) : List (List Int) := ns.foldl putB ks
def below (b : List Int) : List (List Int) := (pairsOf b.length).map fun p => srt (wp b p.1 p.2)
def nextL (ks : List (List Int)) : List (List Int) := putAll [] (ks.flatMap below)
def layer (b : List Int) : Nat → List (List Int)
  | 0 => [srt b]
  | t + 1 => nextL (layer b t)
theorem putAll_snoc (ks ns : List (List Int)) (k : List Int) : putAll ks (ns ++ [k]) = putB (putAll ks ns) k := by
  unfold putAll
  rw [List.foldl_append]
  rfl
theorem putB_len (ks : List (List Int)) (k : List Int) : (putB ks k).length ≤ ks.length + 1 := by
  unfold putB
  split
  · omega
  · rw [List.length_append]; exact Nat.le_refl _
theorem putAll_len : ∀ (ns ks : List (List Int)), (putAll ks ns).length ≤ ks.length + ns.length
  | [], ks => Nat.le_refl _
  | n :: ns, ks => by
    have := putAll_len ns (putB ks n)
    have := putB_len ks n
    show (putAll (putB ks n) ns).length ≤ _
    rw [List.length_cons]
    omega
theorem putB_mem {ks : List (List Int)} {k x : List Int} : x ∈ putB ks k ↔ x ∈ ks ∨ x = k := by
  unfold putB
  split
  · rename_i h
    exact ⟨.inl, fun z => z.elim id fun e => e ▸ h⟩
  · rw [List.mem_append, List.mem_singleton]
theorem putAll_mem {x : List Int} : ∀ (ns ks : List (List Int)), x ∈ putAll ks ns ↔ x ∈ ks ∨ x ∈ ns
  | [], ks => by simp [putAll]
  | n :: ns, ks => by
    show x ∈ putAll (putB ks n) ns ↔ _
    rw [putAll_mem ns, putB_mem, List.mem_cons, or_assoc]
theorem putB_nd {ks : List (List Int)} {k : List Int} (h : ks.Nodup) : (putB ks k).Nodup := by
  unfold putB
  split
  · exact h
  · rename_i hk
    exact nd_snoc h hk
theorem putAll_nd : ∀ (ns ks : List (List Int)), ks.Nodup → (putAll ks ns).Nodup
  | [], _, h => h
  | n :: ns, ks, h => putAll_nd ns (putB ks n) (putB_nd h)
theorem layer_nd (b : List Int) : ∀ t, (layer b t).Nodup
  | 0 => by simp [layer]
  | t + 1 => putAll_nd _ [] List.nodup_nil
theorem layer_num {b : List Int} {m : Int} (hb : ∀ y ∈ b, 0 ≤ y ∧ y ≤ m) : ∀ t, ∀ c ∈ layer b t, ∀ y ∈ c, 0 ≤ y ∧ y ≤ m
  | 0, c, h, y, hy => by
    rw [List.mem_singleton.mp h] at hy
    exact hb y ((srt_perm b).mem_iff.mp hy)
  | t + 1, c, h, y, hy => by
    rcases (putAll_mem _ []).mp h with h | h
    · cases h
    · obtain ⟨d, hd, hc⟩ := List.mem_flatMap.mp h
      obtain ⟨p, hp, rfl⟩ := List.mem_map.mp hc
      obtain ⟨h0, h1, h2⟩ := pairs_mem hp
      exact wp_bound h0 h1 h2 (layer_num hb t d hd) y ((srt_perm _).mem_iff.mp hy)
theorem layer_len {b : List Int} : ∀ t, ∀ c ∈ layer b t, c.length + t = b.length
  | 0, c, h => by rw [List.mem_singleton.mp h, srt_len]; rfl
  | t + 1, c, h => by
    rcases (putAll_mem _ []).mp h with h | h
    · cases h
    · obtain ⟨d, hd, hc⟩ := List.mem_flatMap.mp h
      obtain ⟨p, hp, rfl⟩ := List.mem_map.mp hc
      obtain ⟨h0, h1, h2⟩ := pairs_mem hp
      have := wp_len h0 h1 h2
      have := layer_len t d hd
      rw [srt_len]
      omega
theorem below_len {b : List Int} (h : b.length ≤ 6) : (below b).length ≤ 15 := by
  unfold below
  rw [List.length_map]
  exact pairs_len_six h
theorem flat_len {ks : List (List Int)} (h : ∀ c ∈ ks, c.length ≤ 6) : (ks.flatMap below).length ≤ 15 * ks.length := by
  induction ks with
  | nil => exact Nat.le_refl _
  | cons k ks ih =>
    rw [List.flatMap_cons, List.length_append, List.length_cons]
    have := ih fun c hc => h c (List.mem_cons_of_mem _ hc)
    have := below_len (h k List.mem_cons_self)
    omega
theorem layer_few {b : List Int} (h : b.length ≤ 6) : ∀ t, (layer b t).length ≤ 15 ^ t
  | 0 => Nat.le_refl _
  | t + 1 => by
    have ih := layer_few h t
    have h1 := putAll_len ((layer b t).flatMap below) []
    have h2 := flat_len (ks := layer b t) fun c hc => by have := layer_len t c hc; omega
    show (putAll [] ((layer b t).flatMap below)).length ≤ _
    rw [Nat.pow_succ]
    rw [List.length_nil] at h1
    omega
/-- who reaches x -/
theorem layer_reach {b : List Int} {x : Int} : ∀ (t n : Nat), b.length = n + t + 1 → ((∃ c ∈ layer b t, ways n c x ≠ 0) ↔ wys b x ≠ 0)
  | 0, n, h => by
    have e : ways n (srt b) x = wys b x := by
      unfold wys
      rw [h]
      exact ways_perm n x _ _ (srt_perm b)
    constructor
    · rintro ⟨c, hc, hx⟩
      rw [List.mem_singleton.mp hc, e] at hx
      exact hx
    · intro hx
      exact ⟨srt b, List.mem_singleton.mpr rfl, by rw [e]; exact hx⟩
  | t + 1, n, h => by
    rw [← layer_reach t (n + 1) (by omega)]
    constructor
    · rintro ⟨c, hc, hx⟩
      rcases (putAll_mem _ []).mp hc with z | z
      · cases z
      · obtain ⟨d, hd, hc⟩ := List.mem_flatMap.mp z
        obtain ⟨p, hp, rfl⟩ := List.mem_map.mp hc
        have e : ways n (srt (wp d p.1 p.2)) x = ways n (wp d p.1 p.2) x := ways_perm n x _ _ (srt_perm _)
        rw [e] at hx
        exact ⟨d, hd, ways_step.mpr ⟨p, hp, hx⟩⟩
    · rintro ⟨d, hd, hx⟩
      obtain ⟨p, hp, hx⟩ := ways_step.mp hx
      have e : ways n (srt (wp d p.1 p.2)) x = ways n (wp d p.1 p.2) x := ways_perm n x _ _ (srt_perm _)
      exact ⟨srt (wp d p.1 p.2), (putAll_mem _ []).mpr (.inr (List.mem_flatMap.mpr ⟨d, hd, List.mem_map.mpr ⟨p, hp, rfl⟩⟩)), by rw [e]; exact hx⟩
theorem layer_last {b ls : List Int} (h1 : 1 ≤ b.length) (h : IsLasts b ls) : (layer b (b.length - 1)).length = ls.length := by
  have hs : ∀ c ∈ layer b (b.length - 1), ∃ x, c = [x] := fun c hc => List.length_eq_one_iff.mp (by have := layer_len _ c hc; omega)
  have hm : ∀ x, [x] ∈ layer b (b.length - 1) ↔ x ∈ ls := fun x => by
    rw [h.mem, ← layer_reach (b := b) (x := x) (b.length - 1) 0 (by omega)]
    constructor
    · intro hc
      exact ⟨[x], hc, by show (if [x] = [x] then 1 else 0) ≠ 0; rw [if_pos rfl]; decide⟩
    · rintro ⟨c, hc, hx⟩
      obtain ⟨y, rfl⟩ := hs c hc
      have : y = x := by
        by_cases e : [y] = [x]
        · exact (List.cons.inj e).1
        · exact absurd (if_neg e) hx
      rw [← this]
      exact hc
  have nd := h.up.imp (S := (· ≠ ·)) fun {a b} h => by omega
  have p : (layer b (b.length - 1)).Perm (ls.map fun x => [x]) := by
    refine (List.perm_ext_iff_of_nodup (layer_nd b _) (List.Pairwise.map _ (fun a b hab z => hab (List.cons.inj z).1) nd)).mpr fun c => ?_
    rw [List.mem_map]
    constructor
    · intro hc
      obtain ⟨x, rfl⟩ := hs c hc
      exact ⟨x, (hm x).mp hc, rfl⟩
    · rintro ⟨x, hx, rfl⟩
      exact (hm x).mpr hx
  rw [p.length_eq, List.length_map]
/-- a dict whose keys are these boards -/
def KeysB (kvs : List (List L2.Key × V)) (ks : List (List Int)) : Prop := kvs.map (·.1) = ks.map kI
theorem KeysB.put {kvs : List (List L2.Key × V)} {ks : List (List Int)} (h : KeysB kvs ks) (k : List Int) (v : V) : KeysB (putK kvs (kI k) v) (putB ks k) := by
  unfold KeysB putB at *
  rw [keys_putK, h]
  have e : kI k ∈ ks.map kI ↔ k ∈ ks := by
    rw [List.mem_map]
    exact ⟨fun ⟨x, h1, h2⟩ => kI_inj h2 ▸ h1, fun h => ⟨k, h, rfl⟩⟩
  by_cases hk : k ∈ ks
  · rw [if_pos (e.mpr hk), if_pos hk]
  · rw [if_neg (fun z => hk (e.mp z)), if_neg hk, List.map_append]
    rfl
theorem KeysB.len {kvs : List (List L2.Key × V)} {ks : List (List Int)} (h : KeysB kvs ks) : kvs.length = ks.length := by
  have := congrArg List.length h
  rw [List.length_map, List.length_map] at this
  exact this
theorem KeysB.at' {kvs : List (List L2.Key × V)} {ks : List (List Int)} {i : Nat} {k : List L2.Key} {v : V} (h : KeysB kvs ks) (hi : kvs[i]? = some (k, v)) : ∃ c, ks[i]? = some c ∧ k = kI c := by
  have h1 : (kvs.map (·.1))[i]? = some k := by rw [List.getElem?_map, hi]; rfl
  rw [h, List.getElem?_map] at h1
  cases e : ks[i]? with
  | none => rw [e] at h1; cases h1
  | some c => rw [e] at h1; exact ⟨c, rfl, (Option.some.inj h1).symm⟩
end Lw

--@ uses: is_whole
namespace Lw
section
variable {P : Program} {w : World} {K : PySem.W.Frag} {mg : Str → Option Value} {base : Heap}
/-- of a board nothing is raised -/
def spAskedBoard : Sp := fun vs H Q _ => ∃ (a : Addr) (ns : List Int), vs = [.ref a] ∧ H a = some (.lst (ns.map V.int)) ∧ Board ns ∧ RetV .non H Q
theorem ok_asked_board {f f1 : Addr} {fd fd1 : FuncData} {t1 t2 : Tok} (D : Df K mg "asked_board" s_asked_board ["board"] f fd) (T : Blt mg) (c_MOST : mg "MOST" = some (.int 6 t1)) (c_GREATEST : mg "GREATEST" = some (.int 1000000 t2))
    (o_is_whole : Ok P w K mg base CX0 1 "is_whole" s_is_whole ["thing"] (spIsWhole K) f1 fd1) : FnOk P w K mg base CX0 2 f fd ["board"] spAskedBoard := by
  have ND := sc_asked_board.nd
  refine D.F.ok sc_asked_board (fun vs H Q E h => ?_) (fun cdv A outer s H vs Q E hr h => ?_)
  · obtain ⟨a, ns, rfl, _⟩ := h
    rfl
  · obtain ⟨a, ns, rfl, ha, hb, q⟩ := h
    refine ⟨_, (pss_cons /- 18 -/ (ps_if (PW.pt (pw_or (pt_not (pt_val (pe_callB (kIsi (K := K) rfl) (by rfl) T.isinstance (by decide +kernel) (pa_cons (pv 0) (pa_cons (pe_bltn (v := .ty "list") (by rfl) T.list boot_list rfl) pa_nil))))) (pw_or1 (pt_not (pt_chain op_le op_le pe_int (pe_callB (kLen (K := K) rfl) (by rfl) T.len PySem.boot_len (pa_cons (pv 0) pa_nil)) (pe_glob (v := .int 6) rfl c_MOST ⟨_, rfl⟩))))))
        (pss_one /- 19 -/ ps_never)
        pss_nil)
      (pss_one /- 20 -/ (ps_if (pt_not (pt_val (pe_callB (kAll (K := K) rfl rfl) (by rfl) T.all (by decide +kernel) (pa_cons (pe_lc (own := [("one", 1)]) (by rfl) ND (pi_list (pv 0)) (blkOk_by (own := [("one", 1)]) (N := ["board", "one"]) (sc := defScope s_asked_board) (by decide +kernel)) (fun _ _ _ _ _ => (pg_name (i := 1) ND rfl (.inl rfl))) (fun _ _ _ _ _ => pts_nil) (fun _ _ _ _ _ => (pe_and (pe_call o_is_whole.G (hr.mono (by first | decide | omega)) rfl o_is_whole.D.g o_is_whole.D.F.kp o_is_whole.D.b .nil pass0 (pa_cons (pv 1) pa_nil)) (pe_one (pe_chain op_le op_le pe_int (pv 1) (pe_glob (v := .int 1000000) rfl c_GREATEST ⟨_, rfl⟩)))))) pa_nil))))
        (pss_one /- 21 -/ ps_never)
        pss_nil))), ?_⟩
    have hl : (ns.map V.int).length = ns.length := List.length_map _
    refine q_when (b := false) ?_ (fun h => nomatch h) fun _ H1 e1 => ?_
    · refine et_is (a := !true || !(true && true)) (et_or (et_not (et_B (ev_isi (ev_var rfl) ev_c (fun H1 e1 => .base (.lst (e1 _ _ ha))) (by decide +kernel)))) fun _ => et_not (et_test ?_)) rfl
      refine ev_chain ev_c (ev_len (ev_var rfl) (sq_of ha)) ev_c (ev_is' rv_I0 ?_) (ev_is' rv_I0 ?_)
      · exact congrArg V.bl (decide_eq_true (by rw [hl]; have := hb.one; omega))
      · exact congrArg V.bl (decide_eq_true (by rw [hl]; have := hb.six; omega))
    · refine s_when (b := false) ?_ (fun h => nomatch h) fun _ H2 e2 => q H2 (e1.trans e2)
      have ha1 := e1 _ _ ha
      have z : ((List.range (ns.map V.int).length).map fun _ => true).all id = true := all_range fun _ _ => rfl
      refine et_is (et_not (et_B (ev_all (p := a) (bs := (List.range (ns.map V.int).length).map fun _ => true) ?_))) (by rw [z]; rfl)
      rw [← given_bl (b := fun _ => true)]
      refine el_lcV _ _ (ei_list (ev_var rfl) (sq_of ha1)) (by have := hb.six; omega) (fun i x H2 H3 e2 hi y => ?_) gm_name
      obtain ⟨rfl, hx⟩ := y
      obtain ⟨n, hn, rfl⟩ := int_at hx
      refine ⟨rfl, Ex.refl _, et_yes, fun _ => ?_⟩
      refine ev_is (ev_andV (b := true) (ev_call (ea_cons (ev_var rfl) ea_nil) sv_isWhole) fun _ => ?_) rfl
      have hm := hb.num n (List.mem_of_getElem? hn)
      refine ev_is (ev_chain ev_c (ev_var rfl) ev_c rv_I0 rv_I0) ?_
      rw [decide_eq_true hm.1, decide_eq_true hm.2]
      rfl
theorem sv_askedBoard {a : Addr} {ns : List Int} {H : Hp} (ha : H a = some (.lst (ns.map V.int))) (hb : Board ns) : SpV spAskedBoard [.ref a] H .non := fun H1 e Q q E => ⟨a, ns, rfl, e _ _ ha, hb, fun H2 e2 => q H2 e2⟩
end
end Lw

--@ uses: math_pairs
namespace Lw
section
variable {P : Program} {w : World} {K : PySem.W.Frag} {mg : Str → Option Value} {base : Heap}
theorem pairs_take (n m : Nat) : ((List.range (m + 1)).flatMap fun (i : Nat) => (List.range (n - (i + 1))).map fun (k : Nat) => ((i : Int), (i : Int) + 1 + (k : Int))) =
    ((List.range m).flatMap fun (i : Nat) => (List.range (n - (i + 1))).map fun (k : Nat) => ((i : Int), (i : Int) + 1 + (k : Int))) ++ (List.range (n - (m + 1))).map fun (k : Nat) => ((m : Int), (m : Int) + 1 + (k : Int)) := by
  rw [List.range_succ, List.flatMap_append]
  simp
theorem pairs_take_len (n : Nat) : ∀ m, ((List.range m).flatMap fun (i : Nat) => (List.range (n - (i + 1))).map fun (k : Nat) => ((i : Int), (i : Int) + 1 + (k : Int))).length ≤ m * n
  | 0 => by simp
  | m + 1 => by
    have ih := pairs_take_len n m
    rw [pairs_take, List.length_append, List.length_map, List.length_range, Nat.succ_mul]
    omega
def spWipingsOf : Sp := fun vs H Q _ => ∃ n : Nat, vs = [.int n] ∧ n ≤ 100 ∧ RetX (NP (pairsOf n)) H Q
theorem ok_wipings_of {f : Addr} {fd : FuncData} (D : Df K mg "wipings_of" s_wipings_of ["many"] f fd) (T : Blt mg) : FnOk P w K mg base CX0 1 f fd ["many"] spWipingsOf := by
  have ND := sc_wipings_of.nd
  refine D.F.ok sc_wipings_of (fun vs H Q E h => ?_) (fun cdv A outer s H vs Q E hr h => ?_)
  · obtain ⟨n, rfl, _⟩ := h
    rfl
  · obtain ⟨n, rfl, h6, q⟩ := h
    refine ⟨_, (pss_cons /- 36 -/ (ps_set (i := 1) ND rfl (by first | exact .inl rfl | exact .inr rfl) (pe_lst pa_nil))
      (pss_cons /- 37 -/ (ps_for PassesOwn.never rfl (pi_range1 (by rfl) T.range (pa_cons (pv 0) pa_nil)) (pg_name (i := 2) ND rfl (by first | exact .inl rfl | exact .inr rfl))
        (pss_one /- 38 -/ (ps_expr (pe_bm PySem.F.plainAttrs_list PySem.F.slot_list_extend PySem.F.type_list_extend mt_extend (pv 1) (pa_cons (pe_lc (own := [("other", 3)]) (by rfl) ND (pi_range2 (by rfl) T.range (pa_cons (pe_op op_add (pv 2) pe_int) (pa_cons (pv 0) pa_nil))) (blkOk_by (own := [("other", 3)]) (N := ["many", "found", "one", "other"]) (sc := defScope s_wipings_of) (by decide +kernel)) (fun _ _ _ _ _ => (pg_name (i := 3) ND rfl (.inl rfl))) (fun _ _ _ _ _ => pts_nil) (fun _ _ _ _ _ => (pe_tup (pa_cons (pv 2) (pa_cons (pv 3) pa_nil))))) pa_nil)))))
      (pss_one /- 39 -/ (ps_ret (pv 1))))), ?_⟩
    refine q_asgL (el_lst ea_nil (by decide)) fun p H1 hp e1 h1' => ?_
    refine q_forR1 (n := (n : Int)) (ea_cons (ev_var rfl) ea_nil) (by omega) (fun m σ' H' => ∃ y2 y3, σ' = [some (.int n), some (.ref p), y2, y3] ∧ Ex H H' ∧ ∃ vs, H' p = some (.lst vs) ∧ Prs H' vs ((List.range m).flatMap fun (i : Nat) => (List.range (n - (i + 1))).map fun (k : Nat) => ((i : Int), (i : Int) + 1 + (k : Int))))
      (fun H2 e2 => ⟨none, none, rfl, e1.trans e2, [], e2 _ _ h1', .nil⟩) (fun m σ' H' hm ⟨y2, y3, hs, e, vs, hv, hr⟩ => ?_) (fun σ' H' ⟨y2, y3, hs, e, vs, hv, hr⟩ => ?_)
    · subst hs
      have hl := pairs_take_len n m
      have hl2 : m * n ≤ 100 * 100 := Nat.mul_le_mul (by omega) h6
      refine s_extP (l := p) (qs := (List.range (n - (m + 1))).map fun (k : Nat) => ((m : Int), (m : Int) + 1 + (k : Int))) hv hr (ev_var rfl) ?_ (by rw [List.length_map, List.length_range]; omega) fun H3 ws e3 hw => ⟨_, _, rfl, Ex.mut (e.trans e3) hp, ws, upd_same, ?_⟩
      · have e0 : (List.range (n - (m + 1))).map (fun (k : Nat) => ((m : Int), (m : Int) + 1 + (k : Int))) = ((List.range ((n : Int) - ((m : Int) + 1)).toNat).filter fun _ => true).map (fun (k : Nat) => ((m : Int), (m : Int) + 1 + (k : Int))) := by
          rw [List.filter_eq_self.mpr (fun _ _ => rfl), show ((n : Int) - ((m : Int) + 1)).toNat = n - (m + 1) by omega]
        rw [e0]
        refine ep_lcP (fun _ => true) _ (ei_r2 (lo := (m : Int) + 1) (m := (n : Int)) (ea_cons (ev_op (ev_var rfl) ev_c rv_I0) (ea_cons (ev_var rfl) ea_nil)) (by omega)) (by omega) (fun i x H2 H3 e2 hi y => ?_) gm_name
        obtain ⟨rfl, rfl⟩ := y
        exact ⟨rfl, Ex.refl _, et_yes, fun _ => eu_tup (ea_cons (ev_var rfl) (ea_cons (ev_var rfl) ea_nil)) (by show 2 ≤ 100000; decide)⟩
      · rw [pairs_take]
        exact hw
    · subst hs
      rw [Int.toNat_natCast] at hr
      exact s_ret (ev_var rfl) fun H3 e3 => q _ H3 (e.trans e3) ⟨p, vs, rfl, hp, e3 _ _ hv, hr.mono e3⟩
theorem sx_wipingsOf {n : Nat} {H : Hp} (h : n ≤ 100) : SpX spWipingsOf [.int n] H (NP (pairsOf n)) := fun H1 e Q q E => ⟨n, rfl, h, q⟩
end
end Lw

--@ uses: math_layer asked_board wiped_of wipings_of
namespace Lw
section
variable {P : Program} {w : World} {K : PySem.W.Frag} {mg : Str → Option Value} {base : Heap}
def spBoardsBehind : Sp := fun vs H Q _ => ∃ (a : Addr) (ns : List Int) (n : Nat), vs = [.ref a, .int n] ∧ H a = some (.lst (ns.map V.int)) ∧ Board ns ∧ n < ns.length ∧ RetV (.int ((layer ns n).length : Int)) H Q
/-- tuple(sorted(wiped_of(list(here), wiping))) -/
theorem eu_below {tf tg te : TE} {σ : L2.St} {H : Hp} {E : XK} {q t : Addr} {c : List Int} {i j : Int} (hf : Ev tf σ H (.ref q)) (hg : Ev tg σ H (.ref t)) (hq : H q = some (.tup (c.map V.int))) (ht : H t = some (.tup [.int i, .int j])) (h0 : 0 ≤ i) (h1 : i < j) (h2 : j < c.length) (h3 : c.length ≤ 1000) :
    EvU (tCB (rTup K) (tCons (tCB (rSortedI K) (tCons (tCall spWipedOf [] E (tCons (tCB (rListS K) (tCons tf tNil)) (tCons tg tNil))) tNil)) tNil)) σ H ((srt (wp c i j)).map V.int) :=
  eu_tupN (el_sortIN (el_x (exx_call back_L (RA := fun vs H2 => ∃ pl, vs = [.ref pl, .ref t] ∧ H2 pl = some (.lst (c.map V.int)) ∧ H2 t = some (.tup [.int i, .int j]))
    (eax_l (el_listT hf (st_of hq)) fun pl H7 e7 hpl => eax_v (hg.mono e7) (eax_nil fun H8 e8 => ⟨pl, rfl, e8 _ _ hpl, e8 _ _ (e7 _ _ ht)⟩))
    fun vs H7 e7 hvs => by
      obtain ⟨pl, rfl, g1, g2⟩ := hvs
      exact sp_lx (sl_wipedOf g1 g2 h0 h1 h2 h3))))
theorem ok_boards_behind {f f1 f2 f3 f4 : Addr} {fd fd1 fd2 fd3 fd4 : FuncData} (D : Df K mg "boards_behind" s_boards_behind ["board", "many"] f fd) (T : Blt mg)
    (o_is_whole : Ok P w K mg base CX0 1 "is_whole" s_is_whole ["thing"] (spIsWhole K) f1 fd1)
    (o_asked_board : Ok P w K mg base CX0 2 "asked_board" s_asked_board ["board"] spAskedBoard f2 fd2)
    (o_wiped_of : Ok P w K mg base CX0 1 "wiped_of" s_wiped_of ["board", "wiping"] spWipedOf f3 fd3)
    (o_wipings_of : Ok P w K mg base CX0 1 "wipings_of" s_wipings_of ["many"] spWipingsOf f4 fd4) : FnOk P w K mg base CX0 3 f fd ["board", "many"] spBoardsBehind := by
  have ND := sc_boards_behind.nd
  refine D.F.ok sc_boards_behind (fun vs H Q E h => ?_) (fun cdv A outer s H vs Q E hr h => ?_)
  · obtain ⟨a, ns, n, rfl, _⟩ := h
    rfl
  · obtain ⟨a, ns, n, rfl, ha, hB, hn, q⟩ := h
    have hu := hu_of hr
    refine ⟨_, (pss_cons /- 107 -/ (ps_expr (pe_call o_asked_board.G (hr.mono (by first | decide | omega)) rfl o_asked_board.D.g o_asked_board.D.F.kp o_asked_board.D.b .nil pass0 (pa_cons (pv 0) pa_nil)))
      (pss_cons /- 108 -/ (ps_if (PW.pt (pw_or (pt_not (pt_val (pe_call o_is_whole.G (hr.mono (by first | decide | omega)) rfl o_is_whole.D.g o_is_whole.D.F.kp o_is_whole.D.b .nil pass0 (pa_cons (pv 1) pa_nil)))) (pw_or1 (pt_not (pt_chain op_le op_lt pe_int (pv 1) (pe_callB (kLen (K := K) rfl) (by rfl) T.len PySem.boot_len (pa_cons (pv 0) pa_nil)))))))
        (pss_one /- 109 -/ ps_never)
        pss_nil)
      (pss_cons /- 110 -/ (ps_set (i := 2) ND rfl (by first | exact .inl rfl | exact .inr rfl) (pe_dispT1 hr.units (pe_callTy (kTup' (K := K) rfl) (by rfl) T.tuple (by decide +kernel) (pa_cons (pe_callB (kSortI (K := K) rfl) (by rfl) T.sorted (by decide +kernel) (pa_cons (pv 0) pa_nil)) pa_nil)) pe_bl))
      (pss_cons /- 111 -/ (ps_for PassesOwn.never rfl (pi_range1 (by rfl) T.range (pa_cons (pv 1) pa_nil)) (pg_name (i := 3) ND rfl (by first | exact .inl rfl | exact .inr rfl))
        (pss_cons /- 112 -/ (ps_set (i := 4) ND rfl (by first | exact .inl rfl | exact .inr rfl) pe_dnewT)
        (pss_cons /- 113 -/ (ps_lock (ps_for PassesOwn.never rfl (pi_keys (pv 2)) (pg_name (i := 5) ND rfl (by first | exact .inl rfl | exact .inr rfl))
          (pss_one /- 114 -/ (ps_for PassesOwn.never rfl (pi_list (pe_call o_wipings_of.G (hr.mono (by first | decide | omega)) rfl o_wipings_of.D.g o_wipings_of.D.F.kp o_wipings_of.D.b .nil pass0 (pa_cons (pe_callB (kLen (K := K) rfl) (by rfl) T.len PySem.boot_len (pa_cons (pv 5) pa_nil)) pa_nil))) (pg_name (i := 6) ND rfl (by first | exact .inl rfl | exact .inr rfl))
            (pss_one /- 115 -/ (ps_dput hu (pv 4) (pe_callTy (kTup' (K := K) rfl) (by rfl) T.tuple (by decide +kernel) (pa_cons (pe_callB (kSortI (K := K) rfl) (by rfl) T.sorted (by decide +kernel) (pa_cons (pe_call o_wiped_of.G (hr.mono (by first | decide | omega)) rfl o_wiped_of.D.g o_wiped_of.D.F.kp o_wiped_of.D.b .nil pass0 (pa_cons (pe_callTy (kList (K := K) rfl) (by rfl) T.list (by decide +kernel) (pa_cons (pv 5) pa_nil)) (pa_cons (pv 6) pa_nil))) pa_nil)) pa_nil)) pe_bl rfl))))))
        (pss_one /- 116 -/ (ps_set (i := 2) ND rfl (by first | exact .inl rfl | exact .inr rfl) (pv 4))))))
      (pss_one /- 117 -/ (ps_ret (pe_callB call_len_dT (by rfl) T.len PySem.boot_len (pa_cons (pv 2) pa_nil)))))))), ?_⟩
    have hl : (ns.map V.int).length = ns.length := List.length_map _
    have b6 := hB.six
    refine q_drop (ev_call (ea_cons (ev_var rfl) ea_nil) (sv_askedBoard ha hB)) fun H1 e1 => ?_
    have ha1 := e1 _ _ ha
    refine q_when (b := false) ?_ (fun h => nomatch h) fun _ H2 e2 => ?_
    · refine et_is (a := !true || !(true && true)) (et_or (et_not (et_B (ev_call (ea_cons (ev_var rfl) ea_nil) sv_isWhole))) fun _ => et_not (et_test ?_)) rfl
      refine ev_chain ev_c (ev_var rfl) (ev_len (ev_var rfl) (sq_of ha1)) (ev_is' rv_I0 ?_) (ev_is' rv_I0 ?_)
      · exact congrArg V.bl (decide_eq_true (by omega))
      · exact congrArg V.bl (decide_eq_true (by rw [hl]; omega))
    have ha2 := e2 _ _ ha1
    have e02 := e1.trans e2
    refine q_asgX (ex_dispT1 (ns := srt ns) (eu_tupN (el_sortI (ev_var rfl) (sq_of ha2))) ev_c) fun v H3 e3 hv => ?_
    obtain ⟨d0, rfl, hd0, hd1⟩ := hv
    refine q_forR1 (n := (n : Int)) (ea_cons (ev_var rfl) ea_nil) (by omega)
      (fun t σ' H' => ∃ y3 y4 y5 y6 d kvs, σ' = [some (.ref a), some (.int n), some (.ref d), y3, y4, y5, y6] ∧ Ex H H' ∧ H d = none ∧ H' d = some (.dT kvs) ∧ KeysB kvs (layer ns t))
      (fun H4 e4 => ⟨none, none, none, none, d0, _, rfl, (e02.trans e3).trans e4, fresh_back e02 hd0, e4 _ _ hd1, rfl⟩)
      (fun t σ' H4 ht ⟨y3, y4, y5, y6, d, kvs, hs, e4, hdn, hd, hk⟩ => ?_) (fun σ' H4 ⟨y3, y4, y5, y6, d, kvs, hs, e4, hdn, hd, hk⟩ => ?_)
    · subst hs
      have few := layer_few b6 t
      have p15 : 15 ^ t ≤ 15 ^ 5 := Nat.pow_le_pow_right (by decide) (by omega)
      have p15' : (15 : Nat) ^ 5 = 759375 := by decide
      have len6 : ∀ c ∈ layer ns t, c.length ≤ 6 := fun c hc => by have := layer_len t c hc; omega
      refine q_asgX ex_newT fun v H5 e5 hv => ?_
      obtain ⟨mo, rfl, hmn, hmo⟩ := hv
      have hd5 := e5 _ _ hd
      have mod : mo ≠ d := fun z => by rw [z, hd] at hmn; cases hmn
      have hmn0 := fresh_back e4 hmn
      refine q_forKT (i := 2) (j := 5) rfl hd5 (fun od i σ' H' => ∃ y5 y6 kvs', σ' = [some (.ref a), some (.int n), some (.ref d), some (.int t), some (.ref mo), y5, y6] ∧ ExS [d, mo] H5 H' ∧ H' d = some (.frz od (.dT kvs)) ∧ H' mo = some (.dT kvs') ∧ KeysB kvs' (putAll [] (((layer ns t).take i).flatMap below)))
        (fun od => ⟨_, _, [], rfl, (ExS.refl _).put List.mem_cons_self, upd_same, by rw [upd_ne mod]; exact hmo, rfl⟩) (fun od i σ' H' ⟨_, _, _, _, _, h, _⟩ => h)
        (fun od i k v qa σ' H' hkv hq ⟨z5, z6, kvs', hs, s4, hdf, hmo', hk'⟩ => ?_) (fun od σ' H' ⟨z5, z6, kvs', hs, s4, hdf, hmo', hk'⟩ => ?_)
      · subst hs
        obtain ⟨c, hc, rfl⟩ := hk.at' hkv
        have hcm := List.mem_of_getElem? hc
        have hi := (List.getElem?_eq_some_iff.mp hc).1
        rw [kI_V] at hq
        have c6 := len6 c hcm
        have hll : (c.map V.int).length = c.length := List.length_map _
        refine s_forP (ex_call back_P (ea_cons (ev_is (ev_lenT (ev_var rfl) (st_of hq)) (show V.int (((c.map V.int).length : Nat) : Int) = V.int (c.length : Int) by rw [hll])) ea_nil) (sx_wipingsOf (by omega))) fun p xs H6 hp0 e6 hxs hps => ?_
        have hq6 := e6 _ _ hq
        have hdf6 := e6 _ _ hdf
        have hmo6 := e6 _ _ hmo'
        refine ⟨fun j σ' H'' => ∃ y6 kvs'', σ' = [some (.ref a), some (.int n), some (.ref d), some (.int t), some (.ref mo), some (.ref qa), y6] ∧ ExS [mo] H6 H'' ∧ H'' mo = some (.dT kvs'') ∧ KeysB kvs'' (putAll [] (((layer ns t).take i).flatMap below ++ (below c).take j)),
          ⟨_, kvs', rfl, ExS.refl _, hmo6, by rw [List.take_zero, List.append_nil]; exact hk'⟩, fun j σ' H'' ⟨_, _, _, s, _⟩ => s p _ (by simp only [List.mem_singleton]; exact ne_of hxs hmo6 (fun z => nomatch z)) hxs, fun j pr tt σ' H'' hpr ht ⟨u6, kvs'', hs, s6, hmo7, hk''⟩ => ?_, fun σ' H'' ⟨u6, kvs'', hs, s6, hmo7, hk''⟩ => ?_⟩
        · subst hs
          obtain ⟨p0, p1, p2⟩ := pairs_mem (List.mem_of_getElem? hpr)
          have hq7 := s6 qa _ (by simp only [List.mem_singleton]; exact ne_of hq6 hmo6 (fun z => nomatch z)) hq6
          have ht7 := s6 tt _ (by simp only [List.mem_singleton]; exact ne_of ht hmo6 (fun z => nomatch z)) ht
          have hkl := hk''.len
          have z1 := putAll_len (((layer ns t).take i).flatMap below ++ (below c).take j) []
          have z2 := flat_len (ks := (layer ns t).take i) fun c hc => len6 c (List.mem_of_mem_take hc)
          have z3 := below_len c6
          rw [List.length_append, List.length_take, List.length_nil] at z1
          rw [List.length_take] at z2
          refine s_dputTN (ns := srt (wp c pr.1 pr.2)) ev_c (ev_var rfl) (eu_below (te := tVar 0) (ev_var rfl) (ev_var rfl) hq7 ht7 p0 p1 p2 (by omega)) hmo7 (by omega) fun H8 e8 => ⟨_, _, rfl, (s6.trans (ExS.of e8)).put List.mem_cons_self, upd_same, ?_⟩
          have hb : (below c)[j]? = some (srt (wp c pr.1 pr.2)) := by
            unfold below
            rw [List.getElem?_map, hpr]
            rfl
          rw [List.take_add_one, hb]
          show KeysB _ (putAll [] (((layer ns t).take i).flatMap below ++ ((below c).take j ++ [srt (wp c pr.1 pr.2)])))
          rw [← List.append_assoc, putAll_snoc]
          exact hk''.put _ _
        · subst hs
          refine ⟨_, _, kvs'', rfl, (s4.trans (ExS.of e6)).trans (s6.more (by simp)), s6 d _ (by simp only [List.mem_singleton]; exact Ne.symm mod) hdf6, hmo7, ?_⟩
          rw [show (pairsOf c.length).length = (below c).length by unfold below; rw [List.length_map], List.take_length] at hk''
          rw [List.take_add_one, hc, List.flatMap_append]
          show KeysB kvs'' (putAll [] (((layer ns t).take i).flatMap below ++ ([c].flatMap below)))
          rw [List.flatMap_cons, List.flatMap_nil, List.append_nil]
          exact hk''
      · subst hs
        rw [hk.len, List.take_length] at hk'
        refine s_asg (v := .ref mo) (ev_var rfl) fun H6 e6 => ?_
        refine ⟨_, _, _, _, mo, kvs', rfl, ?_, hmn0, e6 _ _ (by rw [upd_ne mod]; exact hmo'), hk'⟩
        refine Ex.trans (ExS.ex (ms := [d, mo]) (e4.trans e5) (s4.put List.mem_cons_self) fun x hx => ?_) e6
        rcases List.mem_cons.mp hx with z | hx
        · rw [z]; exact hdn
        · rw [List.mem_singleton.mp hx]; exact hmn0
    · subst hs
      rw [Int.toNat_natCast] at hk
      refine s_ret (ev_is (ev_lenDT (ev_var rfl) hd) (by rw [hk.len])) fun H5 e5 => q H5 (e4.trans e5)
theorem sv_boardsBehind {a : Addr} {ns : List Int} {n : Nat} {H : Hp} (ha : H a = some (.lst (ns.map V.int))) (hB : Board ns) (h : n < ns.length) : SpV spBoardsBehind [.ref a, .int n] H (.int ((layer ns n).length : Int)) := fun H1 e Q q E => ⟨a, ns, n, rfl, e _ _ ha, hB, h, q⟩
theorem ev_boardsNew {ta tb : TE} {σ : L2.St} {H : Hp} {E : XK} {ns : List Int} {n : Nat} (ha : EvL ta σ H (ns.map V.int)) (hb : Ev tb σ H (.int n)) (hB : Board ns) (h : n < ns.length) : Ev (tCall spBoardsBehind [] E (tCons ta (tCons tb tNil))) σ H (.int ((layer ns n).length : Int)) :=
  ev_x (exx_call back_V (RA := fun vs H2 => ∃ p, vs = [.ref p, .int n] ∧ H2 p = some (.lst (ns.map V.int))) (eax_l ha fun p H1 e1 hp => eax_v (hb.mono e1) (eax_nil fun H2 e2 => ⟨p, rfl, e2 _ _ hp⟩)) fun vs H1 e1 hvs => by
    obtain ⟨p, rfl, hp⟩ := hvs
    exact sp_vx fun H2 e2 Q q E => ⟨p, ns, n, rfl, e2 _ _ hp, hB, h, q⟩)
end
end Lw

--@ uses: boards_behind law_wiped law_pairs
namespace Lw
section
variable {P : Program} {w : World} {K : PySem.W.Frag} {mg : Str → Option Value} {base : Heap}
theorem ok_law_unlike {f f1 f2 : Addr} {fd fd1 fd2 : FuncData} (D : Df K mg "_law_unlike" s_law_unlike ["_law_board_here", "_law_many"] f fd) (T : Blt mg)
    (o_law_wiped : Ok P w K mg base CX0 1 "_law_wiped" s_law_wiped ["_law_board_here", "_law_pair"] spWipedOf f1 fd1)
    (o_law_pairs : Ok P w K mg base CX0 1 "_law_pairs" s_law_pairs ["_law_many"] spLawPairs f2 fd2) : FnOk P w K mg base CX0 2 f fd ["_law_board_here", "_law_many"] spBoardsBehind := by
  have ND := sc_law_unlike.nd
  refine D.F.ok sc_law_unlike (fun vs H Q E h => ?_) (fun cdv A outer s H vs Q E hr h => ?_)
  · obtain ⟨a, ns, n, rfl, _⟩ := h
    rfl
  · obtain ⟨a, ns, n, rfl, ha, hB, hn, q⟩ := h
    have hu := hu_of hr
    refine ⟨_, (pss_cons /- 169 -/ (ps_set (i := 2) ND rfl (by first | exact .inl rfl | exact .inr rfl) (pe_dispT1 hr.units (pe_callTy (kTup' (K := K) rfl) (by rfl) T.tuple (by decide +kernel) (pa_cons (pe_callB (kSortI (K := K) rfl) (by rfl) T.sorted (by decide +kernel) (pa_cons (pv 0) pa_nil)) pa_nil)) pe_bl))
      (pss_cons /- 170 -/ (ps_for PassesOwn.never rfl (pi_range1 (by rfl) T.range (pa_cons (pv 1) pa_nil)) (pg_name (i := 3) ND rfl (by first | exact .inl rfl | exact .inr rfl))
        (pss_cons /- 171 -/ (ps_set (i := 4) ND rfl (by first | exact .inl rfl | exact .inr rfl) pe_dnewT)
        (pss_cons /- 172 -/ (ps_lock (ps_for PassesOwn.never rfl (pi_keys (pv 2)) (pg_name (i := 5) ND rfl (by first | exact .inl rfl | exact .inr rfl))
          (pss_one /- 173 -/ (ps_for PassesOwn.never rfl (pi_list (pe_call o_law_pairs.G (hr.mono (by first | decide | omega)) rfl o_law_pairs.D.g o_law_pairs.D.F.kp o_law_pairs.D.b .nil pass0 (pa_cons (pe_callB (kLen (K := K) rfl) (by rfl) T.len PySem.boot_len (pa_cons (pv 5) pa_nil)) pa_nil))) (pg_name (i := 6) ND rfl (by first | exact .inl rfl | exact .inr rfl))
            (pss_one /- 174 -/ (ps_dput hu (pv 4) (pe_callTy (kTup' (K := K) rfl) (by rfl) T.tuple (by decide +kernel) (pa_cons (pe_callB (kSortI (K := K) rfl) (by rfl) T.sorted (by decide +kernel) (pa_cons (pe_call o_law_wiped.G (hr.mono (by first | decide | omega)) rfl o_law_wiped.D.g o_law_wiped.D.F.kp o_law_wiped.D.b .nil pass0 (pa_cons (pe_callTy (kList (K := K) rfl) (by rfl) T.list (by decide +kernel) (pa_cons (pv 5) pa_nil)) (pa_cons (pv 6) pa_nil))) pa_nil)) pa_nil)) pe_bl rfl))))))
        (pss_one /- 175 -/ (ps_set (i := 2) ND rfl (by first | exact .inl rfl | exact .inr rfl) (pv 4))))))
      (pss_one /- 176 -/ (ps_ret (pe_callB call_len_dT (by rfl) T.len PySem.boot_len (pa_cons (pv 2) pa_nil)))))), ?_⟩
    have hl : (ns.map V.int).length = ns.length := List.length_map _
    have b6 := hB.six
    refine q_asgX (ex_dispT1 (ns := srt ns) (eu_tupN (el_sortI (ev_var rfl) (sq_of ha))) ev_c) fun v H3 e3 hv => ?_
    obtain ⟨d0, rfl, hd0, hd1⟩ := hv
    refine q_forR1 (n := (n : Int)) (ea_cons (ev_var rfl) ea_nil) (by omega)
      (fun t σ' H' => ∃ y3 y4 y5 y6 d kvs, σ' = [some (.ref a), some (.int n), some (.ref d), y3, y4, y5, y6] ∧ Ex H H' ∧ H d = none ∧ H' d = some (.dT kvs) ∧ KeysB kvs (layer ns t))
      (fun H4 e4 => ⟨none, none, none, none, d0, _, rfl, (e3).trans e4, hd0, e4 _ _ hd1, rfl⟩)
      (fun t σ' H4 ht ⟨y3, y4, y5, y6, d, kvs, hs, e4, hdn, hd, hk⟩ => ?_) (fun σ' H4 ⟨y3, y4, y5, y6, d, kvs, hs, e4, hdn, hd, hk⟩ => ?_)
    · subst hs
      have few := layer_few b6 t
      have p15 : 15 ^ t ≤ 15 ^ 5 := Nat.pow_le_pow_right (by decide) (by omega)
      have p15' : (15 : Nat) ^ 5 = 759375 := by decide
      have len6 : ∀ c ∈ layer ns t, c.length ≤ 6 := fun c hc => by have := layer_len t c hc; omega
      refine q_asgX ex_newT fun v H5 e5 hv => ?_
      obtain ⟨mo, rfl, hmn, hmo⟩ := hv
      have hd5 := e5 _ _ hd
      have mod : mo ≠ d := fun z => by rw [z, hd] at hmn; cases hmn
      have hmn0 := fresh_back e4 hmn
      refine q_forKT (i := 2) (j := 5) rfl hd5 (fun od i σ' H' => ∃ y5 y6 kvs', σ' = [some (.ref a), some (.int n), some (.ref d), some (.int t), some (.ref mo), y5, y6] ∧ ExS [d, mo] H5 H' ∧ H' d = some (.frz od (.dT kvs)) ∧ H' mo = some (.dT kvs') ∧ KeysB kvs' (putAll [] (((layer ns t).take i).flatMap below)))
        (fun od => ⟨_, _, [], rfl, (ExS.refl _).put List.mem_cons_self, upd_same, by rw [upd_ne mod]; exact hmo, rfl⟩) (fun od i σ' H' ⟨_, _, _, _, _, h, _⟩ => h)
        (fun od i k v qa σ' H' hkv hq ⟨z5, z6, kvs', hs, s4, hdf, hmo', hk'⟩ => ?_) (fun od σ' H' ⟨z5, z6, kvs', hs, s4, hdf, hmo', hk'⟩ => ?_)
      · subst hs
        obtain ⟨c, hc, rfl⟩ := hk.at' hkv
        have hcm := List.mem_of_getElem? hc
        have hi := (List.getElem?_eq_some_iff.mp hc).1
        rw [kI_V] at hq
        have c6 := len6 c hcm
        have hll : (c.map V.int).length = c.length := List.length_map _
        refine s_forP (ex_call back_P (ea_cons (ev_is (ev_lenT (ev_var rfl) (st_of hq)) (show V.int (((c.map V.int).length : Nat) : Int) = V.int (c.length : Int) by rw [hll])) ea_nil) (sx_lawPairs (by omega))) fun p xs H6 hp0 e6 hxs hps => ?_
        have hq6 := e6 _ _ hq
        have hdf6 := e6 _ _ hdf
        have hmo6 := e6 _ _ hmo'
        refine ⟨fun j σ' H'' => ∃ y6 kvs'', σ' = [some (.ref a), some (.int n), some (.ref d), some (.int t), some (.ref mo), some (.ref qa), y6] ∧ ExS [mo] H6 H'' ∧ H'' mo = some (.dT kvs'') ∧ KeysB kvs'' (putAll [] (((layer ns t).take i).flatMap below ++ (below c).take j)),
          ⟨_, kvs', rfl, ExS.refl _, hmo6, by rw [List.take_zero, List.append_nil]; exact hk'⟩, fun j σ' H'' ⟨_, _, _, s, _⟩ => s p _ (by simp only [List.mem_singleton]; exact ne_of hxs hmo6 (fun z => nomatch z)) hxs, fun j pr tt σ' H'' hpr ht ⟨u6, kvs'', hs, s6, hmo7, hk''⟩ => ?_, fun σ' H'' ⟨u6, kvs'', hs, s6, hmo7, hk''⟩ => ?_⟩
        · subst hs
          obtain ⟨p0, p1, p2⟩ := pairs_mem (List.mem_of_getElem? hpr)
          have hq7 := s6 qa _ (by simp only [List.mem_singleton]; exact ne_of hq6 hmo6 (fun z => nomatch z)) hq6
          have ht7 := s6 tt _ (by simp only [List.mem_singleton]; exact ne_of ht hmo6 (fun z => nomatch z)) ht
          have hkl := hk''.len
          have z1 := putAll_len (((layer ns t).take i).flatMap below ++ (below c).take j) []
          have z2 := flat_len (ks := (layer ns t).take i) fun c hc => len6 c (List.mem_of_mem_take hc)
          have z3 := below_len c6
          rw [List.length_append, List.length_take, List.length_nil] at z1
          rw [List.length_take] at z2
          refine s_dputTN (ns := srt (wp c pr.1 pr.2)) ev_c (ev_var rfl) (eu_below (te := tVar 0) (ev_var rfl) (ev_var rfl) hq7 ht7 p0 p1 p2 (by omega)) hmo7 (by omega) fun H8 e8 => ⟨_, _, rfl, (s6.trans (ExS.of e8)).put List.mem_cons_self, upd_same, ?_⟩
          have hb : (below c)[j]? = some (srt (wp c pr.1 pr.2)) := by
            unfold below
            rw [List.getElem?_map, hpr]
            rfl
          rw [List.take_add_one, hb]
          show KeysB _ (putAll [] (((layer ns t).take i).flatMap below ++ ((below c).take j ++ [srt (wp c pr.1 pr.2)])))
          rw [← List.append_assoc, putAll_snoc]
          exact hk''.put _ _
        · subst hs
          refine ⟨_, _, kvs'', rfl, (s4.trans (ExS.of e6)).trans (s6.more (by simp)), s6 d _ (by simp only [List.mem_singleton]; exact Ne.symm mod) hdf6, hmo7, ?_⟩
          rw [show (pairsOf c.length).length = (below c).length by unfold below; rw [List.length_map], List.take_length] at hk''
          rw [List.take_add_one, hc, List.flatMap_append]
          show KeysB kvs'' (putAll [] (((layer ns t).take i).flatMap below ++ ([c].flatMap below)))
          rw [List.flatMap_cons, List.flatMap_nil, List.append_nil]
          exact hk''
      · subst hs
        rw [hk.len, List.take_length] at hk'
        refine s_asg (v := .ref mo) (ev_var rfl) fun H6 e6 => ?_
        refine ⟨_, _, _, _, mo, kvs', rfl, ?_, hmn0, e6 _ _ (by rw [upd_ne mod]; exact hmo'), hk'⟩
        refine Ex.trans (ExS.ex (ms := [d, mo]) (e4.trans e5) (s4.put List.mem_cons_self) fun x hx => ?_) e6
        rcases List.mem_cons.mp hx with z | hx
        · rw [z]; exact hdn
        · rw [List.mem_singleton.mp hx]; exact hmn0
    · subst hs
      rw [Int.toNat_natCast] at hk
      refine s_ret (ev_is (ev_lenDT (ev_var rfl) hd) (by rw [hk.len])) fun H5 e5 => q H5 (e4.trans e5)
end
end Lw

--@ uses: wiped_of wipings_of math_cnt
namespace Lw
section
variable {P : Program} {w : World} {K : PySem.W.Frag} {mg : Str → Option Value} {base : Heap}
/-- what is known: the counts of boards, by their sorted numbers -/
structure Kn (H : Hp) (d : Addr) (kvs : List (List L2.Key × V)) : Prop where
  at' : H d = some (.dT kvs)
  val : ∀ ns v, valV kvs (kI ns) = some v → ∃ r es, v = .ref r ∧ H r = some (.dK es) ∧ Cnt es (wys ns)
theorem Kn.mono {H H' : Hp} {d : Addr} {kvs : List (List L2.Key × V)} (h : Kn H d kvs) (e : Ex H H') : Kn H' d kvs := ⟨e _ _ h.at', fun ns v hv => by
  obtain ⟨r, es, h1, h2, h3⟩ := h.val ns v hv
  exact ⟨r, es, h1, e _ _ h2, h3⟩⟩
/-- the new ones are new -/
def Grow (H : Hp) (kvs kvs' : List (List L2.Key × V)) : Prop := ∀ ns v, valV kvs' (kI ns) = some v → valV kvs (kI ns) = some v ∨ ∃ r, v = .ref r ∧ H r = none
def spWaysOf (m : Nat) : Sp := fun vs H Q _ => ∃ (a d : Addr) (ns : List Int) (kvs : List (List L2.Key × V)), vs = [.ref a, .ref d] ∧ H a = some (.lst (ns.map V.int)) ∧ Kn H d kvs ∧ 1 ≤ ns.length ∧ ns.length ≤ m ∧ m ≤ 6 ∧ (∀ y ∈ ns, 0 ≤ y ∧ y ≤ 1000000) ∧ kvs.length + gK ns.length ≤ 1000000 ∧
  ∀ r es kvs' H', ExS [d] H H' → Kn H' d kvs' → H' r = some (.dK es) → Cnt es (wys ns) → Grow H kvs kvs' → (H r = none ∨ ∃ ns', valV kvs (kI ns') = some (.ref r)) → kvs'.length ≤ kvs.length + gK ns.length → Q (.ref r) H'
theorem step_ways_of {m : Nat} {f f1 f2 : Addr} {fd fd1 fd2 : FuncData} (D : Df K mg "ways_of" s_ways_of ["board", "known"] f fd) (T : Blt mg)
    (o_wiped_of : Ok P w K mg base CX0 1 "wiped_of" s_wiped_of ["board", "wiping"] spWipedOf f1 fd1)
    (o_wipings_of : Ok P w K mg base CX0 1 "wipings_of" s_wipings_of ["many"] spWipingsOf f2 fd2)
    (G : FnOk P w K mg base CX0 (m + 1) f fd ["board", "known"] (spWaysOf m)) : FnOk P w K mg base CX0 (m + 1 + 1) f fd ["board", "known"] (spWaysOf (m + 1)) := by
  have ND := sc_ways_of.nd
  have o_ways_of : Ok P w K mg base CX0 (m + 1) "ways_of" s_ways_of ["board", "known"] (spWaysOf m) f fd := ⟨D, G⟩
  refine D.F.ok sc_ways_of (fun vs H Q E h => ?_) (fun cdv A outer s H vs Q E hr h => ?_)
  · obtain ⟨a, d, ns, kvs, rfl, _⟩ := h
    rfl
  · obtain ⟨a, d, ns, kvs, rfl, ha, hK, l1, l2, m6, hb, hz, q⟩ := h
    have hu := hu_of hr
    refine ⟨_, (pss_cons /- 71 -/ (ps_if (pt_cmpR op_eq (pe_callB (kLen (K := K) rfl) (by rfl) T.len PySem.boot_len (pa_cons (pv 0) pa_nil)) pe_int (nomark _))
        (pss_one /- 72 -/ (ps_ret (pe_disp (pps_cons (pe_ix (kIxL (K := K) rfl) (pv 0) pe_int (fun _ _ => rfl)) pe_int pps_nil) (by rfl) (by rfl) (fun z => by cases z) (by decide))))
        pss_nil)
      (pss_cons /- 73 -/ (ps_set (i := 2) ND rfl (by first | exact .inl rfl | exact .inr rfl) (pe_callTy (kTup' (K := K) rfl) (by rfl) T.tuple (by decide +kernel) (pa_cons (pe_callB (kSortI (K := K) rfl) (by rfl) T.sorted (by decide +kernel) (pa_cons (pv 0) pa_nil)) pa_nil)))
      (pss_cons /- 74 -/ (ps_if (pt_cmp (pc_dnotin hu (pv 2) (pv 1)))
        (pss_cons /- 75 -/ (ps_set (i := 3) ND rfl (by first | exact .inl rfl | exact .inr rfl) pe_dnewK)
        (pss_cons /- 76 -/ (ps_for PassesOwn.never rfl (pi_list (pe_call o_wipings_of.G (hr.mono (by first | decide | omega)) rfl o_wipings_of.D.g o_wipings_of.D.F.kp o_wipings_of.D.b .nil pass0 (pa_cons (pe_callB (kLen (K := K) rfl) (by rfl) T.len PySem.boot_len (pa_cons (pv 0) pa_nil)) pa_nil))) (pg_name (i := 4) ND rfl (by first | exact .inl rfl | exact .inr rfl))
          (pss_cons /- 77 -/ (ps_set (i := 5) ND rfl (by first | exact .inl rfl | exact .inr rfl) (pe_call o_ways_of.G (hr.mono (by first | decide | omega)) rfl o_ways_of.D.g o_ways_of.D.F.kp o_ways_of.D.b .nil pass0 (pa_cons (pe_call o_wiped_of.G (hr.mono (by first | decide | omega)) rfl o_wiped_of.D.g o_wiped_of.D.F.kp o_wiped_of.D.b .nil pass0 (pa_cons (pv 0) (pa_cons (pv 4) pa_nil))) (pa_cons (pv 1) pa_nil))))
          (pss_one /- 78 -/ (ps_lock (ps_for PassesOwn.never rfl (pi_keys (pv 5)) (pg_name (i := 6) ND rfl (by first | exact .inl rfl | exact .inr rfl))
            (pss_one /- 79 -/ (ps_dput hu (pv 3) (pv 6) (pe_op op_add (pe_dget2 hu (pv 3) (pv 6) pe_int ⟨rfl, rfl, rfl, rfl⟩) (pe_dget hu (pv 5) (pv 6) (fun _ _ => rfl))) rfl)))))))
        (pss_one /- 80 -/ (ps_dput hu (pv 1) (pv 2) (pv 3) rfl))))
        pss_nil)
      (pss_one /- 81 -/ (ps_ret (pe_dget hu (pv 1) (pv 2) (fun _ _ => rfl))))))), ?_⟩
    have hl : (ns.map V.int).length = ns.length := List.length_map _
    refine q_when (b := decide (V.int (((ns.map V.int).length : Nat) : Int) = V.int 1)) (et_test (ev_op (ev_len (ev_var rfl) (sq_of ha)) ev_c (rv_eq rfl))) (fun hb1 H1 e1 => ?_) (fun hb1 H1 e1 => ?_)
    · -- one number
      have h1 : ns.length = 1 := by
        have := V.int.inj (of_decide_eq_true hb1)
        rw [hl] at this
        omega
      obtain ⟨x, rfl⟩ := List.length_eq_one_iff.mp h1
      refine s_retX (ex_dispK1 (ev_op (ev_var rfl) ev_c (rv_ixL (sq_of (e1 _ _ ha)) (at_int_i (ns := [x]) (i := 0) (by decide) (show (0 : Int) < 1 by decide)))) ev_c) fun v H2 e2 hv => ?_
      obtain ⟨r, rfl, hr0, hr2⟩ := hv
      refine q r _ kvs H2 (ExS.of (e1.trans e2)) (hK.mono (e1.trans e2)) hr2 ⟨by simp, fun k hk => ⟨x, by simpa using hk⟩, fun y => ?_⟩ (fun _ v hv => .inl hv) (.inl (fresh_back e1 hr0)) (Nat.le_add_right _ _)
      show valV [((Sum.inl x : L2.Key), V.int 1)] (Sum.inl y) = if wys [x] y = 0 then none else some (.int (wys [x] y))
      have e : wys [x] y = if [x] = [y] then 1 else 0 := rfl
      rw [e]
      by_cases hxy : x = y
      · subst hxy
        rw [if_pos rfl, valV_pos rfl]
        rfl
      · rw [valV_neg (fun z => hxy (Sum.inl.inj z)), if_neg (fun z => hxy (List.cons.inj z).1)]
        rfl
    · -- more
      have hL2 : 2 ≤ ns.length := by
        have : ¬ ((ns.length : Int) = 1) := fun z => by
          rw [hl, z, decide_eq_true rfl] at hb1
          cases hb1
        omega
      refine q_asgU (eu_tupN (el_sortI (ev_var rfl) (sq_of (e1 _ _ ha)))) fun kt H2 hkt e2 hk2 => ?_
      have e12 := e1.trans e2
      have K2 := hK.mono e12
      refine q_when (b := !(valV kvs (kI (srt ns))).isSome) (et_ninT (ev_var rfl) (ev_var rfl) hk2 (.inl K2.at')) (fun hb2 H3 e3 => ?_) (fun hb2 H3 e3 => ?_)
      · have hnone : valV kvs (kI (srt ns)) = none := by
          cases hv : valV kvs (kI (srt ns)) with
          | none => rfl
          | some v => rw [hv] at hb2; cases hb2
        have e13 := e12.trans e3
        refine q_asgX ex_newK fun v H4 e4 hv => ?_
        obtain ⟨fo, rfl, hfo0, hfo⟩ := hv
        have e14 := e13.trans e4
        have ha4 := e14 _ _ ha
        have hlen : V.int (((ns.map V.int).length : Nat) : Int) = V.int (ns.length : Int) := by rw [hl]
        refine q_forP (ex_call back_P (ea_cons (ev_is (ev_len (ev_var rfl) (sq_of ha4)) hlen) ea_nil) (sx_wipingsOf (by omega))) fun p xs H5 hp0 e5 hxs hps => ?_
        have e15 := e14.trans e5
        have K5 := hK.mono e15
        have hfo5 := e5 _ _ hfo
        have ha5 := e15 _ _ ha
        have hd5 := K5.at'
        have pd : p ∉ [d, fo] := by
          simp only [List.mem_cons, List.not_mem_nil, or_false, not_or]
          exact ⟨ne_of hxs hd5 (fun z => nomatch z), ne_of hxs hfo5 (fun z => nomatch z)⟩
        have fod : fo ≠ d := ne_of hfo5 hd5 (fun z => nomatch z)
        have nfo : ∀ ns' v, valV kvs (kI ns') = some v → v ≠ .ref fo := fun ns' v hv z => by
          obtain ⟨r, es, h1, h2, _⟩ := (hK.mono e13).val ns' v hv
          rw [h1] at z
          rw [V.ref.inj z, hfo0] at h2
          cases h2
        refine ⟨fun i σ' H' => ∃ y4 y5 y6 kvs' fs, σ' = [some (.ref a), some (.ref d), some (.ref kt), some (.ref fo), y4, y5, y6] ∧ ExS [d, fo] H5 H' ∧ Kn H' d kvs' ∧ H' fo = some (.dK fs) ∧ Cnt fs (part ns i) ∧ kvs'.length ≤ kvs.length + i * gK (ns.length - 1) ∧ i ≤ (pairsOf ns.length).length ∧ Grow H kvs kvs' ∧ ∀ ns' v, valV kvs' (kI ns') = some v → v ≠ .ref fo,
          ⟨none, none, none, kvs, [], rfl, ExS.refl _, K5, hfo5, Cnt.nil.congr fun x => rfl, by omega, Nat.zero_le _, fun _ v hv => .inl hv, nfo⟩,
          fun i σ' H' ⟨_, _, _, _, _, _, e, _⟩ => e p _ pd hxs, fun i pr t σ' H' hpr ht ⟨y4, y5, y6, kvs', fs, hs, e, hK', hfs, hC, hkl, hil, hG, hnf⟩ => ?_, fun σ' H' ⟨y4, y5, y6, kvs', fs, hs, e, hK', hfs, hC, hkl, hil, hG, hnf⟩ => ?_⟩
        · subst hs
          obtain ⟨p0, p1, p2⟩ := pairs_mem (List.mem_of_getElem? hpr)
          have hil' : i < (pairsOf ns.length).length := (List.getElem?_eq_some_iff.mp hpr).1
          have hwl := wp_len p0 p1 p2
          have hwb := wp_bound p0 p1 p2 hb
          have ha' := e a _ (by simp only [List.mem_cons, List.not_mem_nil, or_false, not_or]; exact ⟨ne_of ha5 hd5 (fun z => nomatch z), ne_of ha5 hfo5 (fun z => nomatch z)⟩) ha5
          have ht' := e t _ (by simp only [List.mem_cons, List.not_mem_nil, or_false, not_or]; exact ⟨ne_of ht hd5 (fun z => nomatch z), ne_of ht hfo5 (fun z => nomatch z)⟩) ht
          have gk : gK ns.length = 1 + (pairsOf ns.length).length * gK (ns.length - 1) := by
            obtain ⟨n, hn⟩ : ∃ n, ns.length = n + 2 := ⟨ns.length - 2, by omega⟩
            rw [hn]
            rfl
          have gm : (i + 1) * gK (ns.length - 1) ≤ (pairsOf ns.length).length * gK (ns.length - 1) := Nat.mul_le_mul_right _ (by omega)
          rw [Nat.succ_mul] at gm
          refine q_asgS (RA := fun vs H2 => ∃ pw, vs = [.ref pw, .ref d] ∧ H2 pw = some (.lst ((wp ns pr.1 pr.2).map V.int))) (eax_l (el_call (ea_cons (ev_var rfl) (ea_cons (ev_var rfl) ea_nil)) (sl_wipedOf ha' ht' p0 p1 p2 (by omega))) fun pw H6 e6 hpw => eax_v (ev_var rfl) (eax_nil fun H7 e7 => ⟨pw, rfl, e7 _ _ hpw⟩)) fun vs H6 e6 hvs => ?_
          obtain ⟨pw, rfl, hpw⟩ := hvs
          have K6 := hK'.mono e6
          have hfs6 := e6 _ _ hfs
          refine ⟨pw, d, wp ns pr.1 pr.2, kvs', rfl, hpw, K6, by omega, by omega, by omega, hwb, ?_, fun r es kvs'' H7 s7 K7 hr7 hC7 hG7 hr6 hl7 => ?_⟩
          · rw [show (wp ns pr.1 pr.2).length = ns.length - 1 by omega]
            omega
          · rw [show (wp ns pr.1 pr.2).length = ns.length - 1 by omega] at hl7
            have hfs7 := s7 fo _ (by simp only [List.mem_singleton]; exact fod) hfs6
            have rfo : r ≠ fo := by
              rcases hr6 with h | ⟨ns', h⟩
              · exact fun z => by rw [z, hfs6] at h; cases h
              · exact fun z => hnf ns' _ h (by rw [z])
            obtain ⟨ks, hks, hkn, hkm⟩ := hC7.keys
            have hkl' : es.length = ks.length := by rw [← List.length_map (f := (·.1)), hks, List.length_map]
            refine s_forKK (i := 5) (j := 6) rfl hr7 (fun od j σ' H'' => ∃ y6 fs', σ' = [some (.ref a), some (.ref d), some (.ref kt), some (.ref fo), some (.ref t), some (.ref r), y6] ∧ ExS [r, fo] H7 H'' ∧ H'' r = some (.frz od (.dK es)) ∧ H'' fo = some (.dK fs') ∧ Cnt fs' fun x => part ns i x + if x ∈ ks.take j then wys (wp ns pr.1 pr.2) x else 0)
              (fun od => ⟨_, fs, rfl, (ExS.refl _).put (List.mem_cons_self), upd_same, by rw [upd_ne (Ne.symm rfo)]; exact hfs7, hC.congr fun x => by simp⟩) (fun od j σ' H'' ⟨_, _, _, _, h, _⟩ => h)
              (fun od j k v σ' H'' hkv ⟨z6, fs', hs, e'', hr'', hfo'', hC''⟩ => ?_) (fun od σ' H'' ⟨z6, fs', hs, e'', hr'', hfo'', hC''⟩ => ?_)
            · subst hs
              have hkj : (ks.map Sum.inl : List L2.Key)[j]? = some k := by rw [← hks, List.getElem?_map, hkv]; rfl
              obtain ⟨x, hxj, rfl⟩ : ∃ x : Int, ks[j]? = some x ∧ k = Sum.inl x := by
                rw [List.getElem?_map] at hkj
                cases h : ks[j]? with
                | none => rw [h] at hkj; cases hkj
                | some x => rw [h] at hkj; exact ⟨x, rfl, (Option.some.inj hkj).symm⟩
              have hxm : x ∈ ks := List.mem_of_getElem? hxj
              have hg0 := (hkm x).mp hxm
              have hv7 := hC7.val x
              rw [if_neg hg0] at hv7
              have hnt : x ∉ ks.take j := fun hm => by
                obtain ⟨i', hi', he⟩ := List.mem_iff_getElem.mp hm
                rw [List.length_take] at hi'
                rw [List.getElem_take] at he
                have := nd_ix hkn (List.getElem?_eq_some_iff.mpr ⟨by omega, he⟩) hxj
                omega
              have hF : (part ns i x + if x ∈ ks.take j then wys (wp ns pr.1 pr.2) x else 0) = part ns i x := by rw [if_neg hnt]; omega
              have flen : fs'.length ≤ 1000001 := hC''.len fun y hy => by
                by_cases h1 : part ns i y ≠ 0
                · exact part_range hb h1
                · have : wys (wp ns pr.1 pr.2) y ≠ 0 := fun z => hy (by rw [z]; split <;> omega)
                  exact ways_range hwb this
              refine s_dputK (v := .int (((part ns i x + wys (wp ns pr.1 pr.2) x : Nat) : Nat) : Int)) (ev_is (ev_op (ev_is (ev_dget2K (ev_var rfl) (ev_var rfl) ev_c (.inl hfo'')) (hC''.get x)) (ev_dgetK (ev_var rfl) (ev_var rfl) (.inr ⟨od, hr''⟩) hv7) rv_I0) ?_) (ev_var rfl) (ev_var rfl) hfo'' (by omega) fun H8 e8 => ⟨_, _, rfl, ((e''.trans (ExS.of e8)).put (List.mem_cons_of_mem _ List.mem_cons_self)), ?_, upd_same, ?_⟩
              · rw [hF]
                exact congrArg V.int (by omega)
              · rw [upd_ne rfo]
                exact e8 _ _ hr''
              · refine (hC''.put (x := x) (c := part ns i x + wys (wp ns pr.1 pr.2) x) (by omega)).congr fun y => ?_
                rw [List.take_add_one, hxj]
                by_cases hyx : y = x
                · subst hyx
                  rw [if_pos rfl, if_pos (by simp)]
                · rw [if_neg hyx]
                  have : (y ∈ ks.take j ++ (some x).toList) ↔ y ∈ ks.take j := by simp [hyx]
                  simp only [this]
            · subst hs
              rw [hkl', List.take_length] at hC''
              have sx : ExS [fo] H7 (upd H'' r (.dK es)) := fun b o hb2 ho => by
                by_cases hbr : b = r
                · rw [hbr, upd_same, ← hr7, ← hbr, ho]
                · rw [upd_ne hbr]
                  exact e'' b o (by simp only [List.mem_cons, List.not_mem_nil, or_false, not_or]; exact ⟨hbr, by simpa using hb2⟩) ho
              have hnf'' : ∀ ns' v, valV kvs'' (kI ns') = some v → v ≠ .ref fo := fun ns' v hv z => by
                rcases hG7 ns' v hv with h | ⟨r', h1, h2⟩
                · exact hnf ns' v h z
                · rw [h1] at z
                  rw [V.ref.inj z, hfs6] at h2
                  cases h2
              refine ⟨_, _, _, kvs'', fs', rfl, ?_, ⟨sx d _ (by simp only [List.mem_singleton]; exact fun z => fod z.symm) K7.at', fun ns' v hv => ?_⟩, ?_, hC''.congr fun x => ?_, ?_, by omega, fun ns' v hv => ?_, hnf''⟩
              · exact (e.trans (ExS.of e6)).trans ((s7.more (by simp)).trans (sx.more (by simp)))
              · obtain ⟨r1, es1, h1, h2, h3⟩ := K7.val ns' v hv
                refine ⟨r1, es1, h1, sx r1 _ (by simp only [List.mem_singleton]; exact fun z => hnf'' ns' v hv (by rw [h1, z])) h2, h3⟩
              · rw [upd_ne (Ne.symm rfo)]
                exact hfo''
              · rw [part_succ hpr]
                by_cases hx : x ∈ ks
                · rw [if_pos hx]
                · rw [if_neg hx]
                  have : wys (wp ns pr.1 pr.2) x = 0 := by
                    by_cases h0 : wys (wp ns pr.1 pr.2) x = 0
                    · exact h0
                    · exact absurd ((hkm x).mpr h0) hx
                  omega
              · rw [Nat.succ_mul]
                omega
              · rcases hG7 ns' v hv with h | ⟨r', h1, h2⟩
                · exact hG ns' v h
                · refine .inr ⟨r', h1, fresh_back e15 (fresh_backS (ms := [d, fo]) (e.trans (ExS.of e6)) (fun m hm => ?_) h2)⟩
                  rcases List.mem_cons.mp hm with z | hm
                  · rw [z, K6.at']
                    exact fun z => nomatch z
                  · rw [List.mem_singleton.mp hm, hfs6]
                    exact fun z => nomatch z
        · -- known[key] = found; return known[key]
          subst hs
          have hk' := e kt _ (by simp only [List.mem_cons, List.not_mem_nil, or_false, not_or]; exact ⟨ne_of (e5 _ _ (e4 _ _ (e3 _ _ hk2))) hd5 (fun z => nomatch z), ne_of (e5 _ _ (e4 _ _ (e3 _ _ hk2))) hfo5 (fun z => nomatch z)⟩) (e5 _ _ (e4 _ _ (e3 _ _ hk2)))
          have gk : gK ns.length = 1 + (pairsOf ns.length).length * gK (ns.length - 1) := by
            obtain ⟨n, hn⟩ : ∃ n, ns.length = n + 2 := ⟨ns.length - 2, by omega⟩
            rw [hn]
            rfl
          refine s_dputT (v := .ref fo) (ev_var rfl) (ev_var rfl) (ev_var rfl) hk' hK'.at' (by omega) fun H9 e9 => ?_
          have hk9 : (upd H9 d (.dT (putK kvs' (kI (srt ns)) (.ref fo)))) kt = some (.tup ((srt ns).map V.int)) := by
            rw [upd_ne (ne_of hk' hK'.at' (fun z => nomatch z))]
            exact e9 _ _ hk'
          have hfo9 : (upd H9 d (.dT (putK kvs' (kI (srt ns)) (.ref fo)))) fo = some (.dK fs) := by
            rw [upd_ne fod]
            exact e9 _ _ hfs
          have hget : valV (putK kvs' (kI (srt ns)) (.ref fo)) (kI (srt ns)) = some (.ref fo) := by rw [valV_put, if_pos rfl]
          have hCw : Cnt fs (wys ns) := hC.congr fun x => part_all hL2 x
          refine s_ret (ev_dgetT (ev_var rfl) (ev_var rfl) hk9 (.inl upd_same) hget) fun H10 e10 => ?_
          refine q fo fs _ H10 ?_ ⟨e10 _ _ upd_same, fun ns' v hv => ?_⟩ (e10 _ _ hfo9) hCw (fun ns' v hv => ?_) (.inl (fresh_back e13 hfo0)) ?_
          · refine ExS.trans (fun b o hb2 ho => ?_) (ExS.of e10)
            rw [upd_ne (by simpa using hb2)]
            refine e9 _ _ (e b o ?_ (e15 _ _ ho))
            simp only [List.mem_cons, List.not_mem_nil, or_false, not_or]
            exact ⟨by simpa using hb2, fun z => by rw [z, fresh_back e13 hfo0] at ho; cases ho⟩
          · rw [valV_put] at hv
            by_cases hkk : kI ns' = kI (srt ns)
            · rw [if_pos hkk] at hv
              refine ⟨fo, fs, (Option.some.inj hv).symm, e10 _ _ hfo9, hCw.congr fun x => ?_⟩
              rw [kI_inj hkk]
              exact (wys_perm (srt_perm ns) x).symm
            · rw [if_neg hkk] at hv
              obtain ⟨r1, es1, h1, h2, h3⟩ := hK'.val ns' v hv
              refine ⟨r1, es1, h1, e10 _ _ ?_, h3⟩
              rw [upd_ne (ne_of h2 hK'.at' (fun z => nomatch z))]
              exact e9 _ _ h2
          · rw [valV_put] at hv
            by_cases hkk : kI ns' = kI (srt ns)
            · rw [if_pos hkk] at hv
              exact .inr ⟨fo, (Option.some.inj hv).symm, fresh_back e13 hfo0⟩
            · rw [if_neg hkk] at hv
              exact hG ns' v hv
          · have := length_putK kvs' (kI (srt ns)) (.ref fo)
            omega
      · -- known already
        obtain ⟨v, hv⟩ : ∃ v, valV kvs (kI (srt ns)) = some v := by
          cases hv : valV kvs (kI (srt ns)) with
          | none => rw [hv] at hb2; cases hb2
          | some v => exact ⟨v, rfl⟩
        have K3 := K2.mono e3
        obtain ⟨r, es, rfl, hr3, hC3⟩ := K3.val _ v hv
        refine s_ret (ev_dgetT (ev_var rfl) (ev_var rfl) (e3 _ _ hk2) (.inl K3.at') hv) fun H4 e4 => ?_
        exact q r es kvs H4 (ExS.of ((e12.trans e3).trans e4)) (K3.mono e4) (e4 _ _ hr3) (hC3.congr fun x => wys_perm (srt_perm ns) x) (fun _ v hv => .inl hv) (.inr ⟨_, hv⟩) (Nat.le_add_right _ _)
theorem ok_ways_of {f f1 f2 : Addr} {fd fd1 fd2 : FuncData} (D : Df K mg "ways_of" s_ways_of ["board", "known"] f fd) (T : Blt mg)
    (o_wiped_of : Ok P w K mg base CX0 1 "wiped_of" s_wiped_of ["board", "wiping"] spWipedOf f1 fd1)
    (o_wipings_of : Ok P w K mg base CX0 1 "wipings_of" s_wipings_of ["many"] spWipingsOf f2 fd2) : FnOk P w K mg base CX0 7 f fd ["board", "known"] (spWaysOf 6) := by
  have all : ∀ m, FnOk P w K mg base CX0 (m + 1) f fd ["board", "known"] (spWaysOf m) := by
    intro m
    induction m with
    | zero =>
      have no : ∀ vs H Q E, ¬ spWaysOf 0 vs H Q E := fun vs H Q E h => by
        obtain ⟨a, d, ns, kvs, _, _, _, h1, h2, _⟩ := h
        omega
      exact ⟨fun vs H Q E h => absurd h (no vs H Q E), fun A outer s H args us vs Q E _ _ _ _ h => absurd h (no vs H Q E)⟩
    | succ m ih => exact step_ways_of D T o_wiped_of o_wipings_of ih
  exact all 6
theorem ex_waysNew {ta : TE} {σ : L2.St} {H : Hp} {E : XK} {a : Addr} {ns : List Int} (ha : Ev ta σ H (.ref a)) (hA : H a = some (.lst (ns.map V.int))) (hB : Board ns) : EvX (tCall (spWaysOf 6) [] E (tCons ta (tCons tDNewT tNil))) σ H (NCnt ns) := fun H1 e Q q =>
  ha H1 e _ fun H2 e2 d hd => by
    have h := gK_six ns.length hB.six
    refine ⟨a, d, ns, [], rfl, Ex.new hd _ _ ((e.trans e2) _ _ hA), ⟨upd_same, fun ns v hv => by cases hv⟩, hB.one, hB.six, Nat.le_refl _, hB.num, by rw [List.length_nil]; omega, fun r es kvs' H' s K hr hC hG hr0 hl => ?_⟩
    have eH : Ex H1 H' := ExS.ex (e2.trans (Ex.new hd)) s fun m hm => by
      rw [List.mem_singleton.mp hm]
      exact fresh_back e2 hd
    refine q _ H' eH ⟨r, es, rfl, ?_, hr, hC⟩
    rcases hr0 with h | ⟨ns', h⟩
    · exact fresh_back (e2.trans (Ex.new hd)) h
    · cases h
end
end Lw

--@ uses: asked_board ways_of math_lasts
namespace Lw
section
variable {P : Program} {w : World} {K : PySem.W.Frag} {mg : Str → Option Value} {base : Heap}
def spLasts : Sp := fun vs H Q _ => ∃ (a : Addr) (ns : List Int), vs = [.ref a] ∧ H a = some (.lst (ns.map V.int)) ∧ Board ns ∧ RetX (NLasts ns) H Q
theorem ok_lasts {f f1 f2 : Addr} {fd fd1 fd2 : FuncData} (D : Df K mg "lasts" s_lasts ["board"] f fd) (T : Blt mg)
    (o_asked_board : Ok P w K mg base CX0 2 "asked_board" s_asked_board ["board"] spAskedBoard f1 fd1)
    (o_ways_of : Ok P w K mg base CX0 7 "ways_of" s_ways_of ["board", "known"] (spWaysOf 6) f2 fd2) : FnOk P w K mg base CX0 8 f fd ["board"] spLasts := by
  have ND := sc_lasts.nd
  refine D.F.ok sc_lasts (fun vs H Q E h => ?_) (fun cdv A outer s H vs Q E hr h => ?_)
  · obtain ⟨a, ns, rfl, _⟩ := h
    rfl
  · obtain ⟨a, ns, rfl, ha, hB, q⟩ := h
    refine ⟨_, (pss_cons /- 83 -/ (ps_expr (pe_call o_asked_board.G (hr.mono (by first | decide | omega)) rfl o_asked_board.D.g o_asked_board.D.F.kp o_asked_board.D.b .nil pass0 (pa_cons (pv 0) pa_nil)))
      (pss_one /- 84 -/ (ps_ret (pe_callB (kSortI (K := K) rfl) (by rfl) T.sorted (by decide +kernel) (pa_cons (pe_callTy (call_list_dK rfl) (by rfl) T.list (by decide +kernel) (pa_cons (pe_call o_ways_of.G (hr.mono (by first | decide | omega)) rfl o_ways_of.D.g o_ways_of.D.F.kp o_ways_of.D.b .nil pass0 (pa_cons (pv 0) (pa_cons pe_dnewT pa_nil))) pa_nil)) pa_nil))))), ?_⟩
    refine q_drop (ev_call (ea_cons (ev_var rfl) ea_nil) (sv_askedBoard ha hB)) fun H1 e1 => ?_
    exact s_retX (ex_sortKeys (ex_s (ex_waysNew (ev_var rfl) (e1 _ _ ha) hB))) fun v H2 e2 hv => q v H2 (e1.trans e2) (back_Lasts _ _ _ _ e1 hv)
/-- lasts of a new board -/
theorem el_lastsNew {ta : TE} {σ : L2.St} {H : Hp} {E : XK} {ns ls : List Int} (ha : EvL ta σ H (ns.map V.int)) (hB : Board ns) (g : IsLasts ns ls) : EvL (tCall spLasts [] E (tCons ta tNil)) σ H (ls.map V.int) :=
  el_lasts (exx_call back_Lasts (RA := fun vs H2 => ∃ p, vs = [.ref p] ∧ H2 p = some (.lst (ns.map V.int))) (eax_l ha fun p H1 e1 hp => eax_nil fun H2 e2 => ⟨p, rfl, e2 _ _ hp⟩) fun vs H1 e1 hvs => by
    obtain ⟨p, rfl, hp⟩ := hvs
    exact fun H2 e2 Q q E => ⟨p, ns, rfl, e2 _ _ hp, hB, q⟩) g
theorem sx_lasts {a : Addr} {ns : List Int} {H : Hp} (ha : H a = some (.lst (ns.map V.int))) (hB : Board ns) : SpX spLasts [.ref a] H (NLasts ns) := fun H1 e Q q E => ⟨a, ns, rfl, e _ _ ha, hB, q⟩
end
end Lw

--@ uses: is_whole
namespace Lw
section
variable {P : Program} {w : World} {K : PySem.W.Frag} {mg : Str → Option Value} {base : Heap}
def spAskedLast : Sp := fun vs H Q _ => ∃ x : Int, vs = [.int x] ∧ 0 ≤ x ∧ RetV .non H Q
theorem ok_asked_last {f f1 : Addr} {fd fd1 : FuncData} (D : Df K mg "asked_last" s_asked_last ["last"] f fd) (T : Blt mg)
    (o_is_whole : Ok P w K mg base CX0 1 "is_whole" s_is_whole ["thing"] (spIsWhole K) f1 fd1) : FnOk P w K mg base CX0 2 f fd ["last"] spAskedLast := by
  have ND := sc_asked_last.nd
  refine D.F.ok sc_asked_last (fun vs H Q E h => ?_) (fun cdv A outer s H vs Q E hr h => ?_)
  · obtain ⟨x, rfl, _⟩ := h
    rfl
  · obtain ⟨x, rfl, h0, q⟩ := h
    refine ⟨_, (pss_one /- 86 -/ (ps_if (PW.pt (pw_or (pt_not (pt_val (pe_call o_is_whole.G (hr.mono (by first | decide | omega)) rfl o_is_whole.D.g o_is_whole.D.F.kp o_is_whole.D.b .nil pass0 (pa_cons (pv 0) pa_nil)))) (pw_or1 (pt_cmpR op_lt (pv 0) pe_int (nomark _)))))
        (pss_one /- 87 -/ ps_never)
        pss_nil)), ?_⟩
    refine s_when (b := false) ?_ (fun h => nomatch h) fun _ H1 e1 => q H1 e1
    refine et_is (et_or (et_not (et_B (ev_call (ea_cons (ev_var rfl) ea_nil) sv_isWhole))) fun _ => et_test (ev_op (ev_var rfl) ev_c rv_I0)) ?_
    rw [decide_eq_false (by omega)]
    rfl
theorem sv_askedLast {x : Int} {H : Hp} (h : 0 ≤ x) : SpV spAskedLast [.int x] H .non := fun H1 e Q q E => ⟨x, rfl, h, q⟩
end
end Lw

--@ uses: asked_board asked_last ways_of
namespace Lw
section
variable {P : Program} {w : World} {K : PySem.W.Frag} {mg : Str → Option Value} {base : Heap}
def spHowMany : Sp := fun vs H Q _ => ∃ (a : Addr) (ns : List Int) (x : Int), vs = [.ref a, .int x] ∧ H a = some (.lst (ns.map V.int)) ∧ Board ns ∧ 0 ≤ x ∧ RetV (.int (wys ns x)) H Q
theorem ev_getCnt {te tk tx : TE} {σ : L2.St} {H : Hp} {ns : List Int} {x : Int} (h : EvX te σ H (NCnt ns)) (hk : Ev tk σ H (.int x)) (hx : Ev tx σ H (.int 0)) : Ev (tDGet2 te tk tx) σ H (.int (wys ns x)) := fun H1 e Q q =>
  h H1 e _ fun v H2 e2 ⟨r, es, ev, _, hr, hC⟩ => by
    subst ev
    refine ⟨r, rfl, .inl ⟨es, .inl hr⟩, hk H2 (e.trans e2) _ fun H3 e3 => hx H3 ((e.trans e2).trans e3) _ fun H4 e4 => ⟨_, .inl ⟨es, Sum.inl x, .inl ((e3.trans e4) _ _ hr), rfl, rfl⟩, ?_⟩⟩
    rw [hC.get]
    exact q H4 ((e2.trans e3).trans e4)
theorem ok_how_many {f f1 f2 f3 : Addr} {fd fd1 fd2 fd3 : FuncData} (D : Df K mg "how_many" s_how_many ["board", "last"] f fd) (T : Blt mg)
    (o_asked_board : Ok P w K mg base CX0 2 "asked_board" s_asked_board ["board"] spAskedBoard f1 fd1)
    (o_asked_last : Ok P w K mg base CX0 2 "asked_last" s_asked_last ["last"] spAskedLast f3 fd3)
    (o_ways_of : Ok P w K mg base CX0 7 "ways_of" s_ways_of ["board", "known"] (spWaysOf 6) f2 fd2) : FnOk P w K mg base CX0 8 f fd ["board", "last"] spHowMany := by
  have ND := sc_how_many.nd
  refine D.F.ok sc_how_many (fun vs H Q E h => ?_) (fun cdv A outer s H vs Q E hr h => ?_)
  · obtain ⟨a, ns, x, rfl, _⟩ := h
    rfl
  · obtain ⟨a, ns, x, rfl, ha, hB, h0, q⟩ := h
    have hu := hu_of hr
    refine ⟨_, (pss_cons /- 89 -/ (ps_expr (pe_call o_asked_board.G (hr.mono (by first | decide | omega)) rfl o_asked_board.D.g o_asked_board.D.F.kp o_asked_board.D.b .nil pass0 (pa_cons (pv 0) pa_nil)))
      (pss_cons /- 90 -/ (ps_expr (pe_call o_asked_last.G (hr.mono (by first | decide | omega)) rfl o_asked_last.D.g o_asked_last.D.F.kp o_asked_last.D.b .nil pass0 (pa_cons (pv 1) pa_nil)))
      (pss_one /- 91 -/ (ps_ret (pe_dget2 hu (pe_call o_ways_of.G (hr.mono (by first | decide | omega)) rfl o_ways_of.D.g o_ways_of.D.F.kp o_ways_of.D.b .nil pass0 (pa_cons (pv 0) (pa_cons pe_dnewT pa_nil))) (pv 1) pe_int ⟨rfl, rfl, rfl, rfl⟩))))), ?_⟩
    refine q_drop (ev_call (ea_cons (ev_var rfl) ea_nil) (sv_askedBoard ha hB)) fun H1 e1 => ?_
    refine q_drop (ev_call (ea_cons (ev_var rfl) ea_nil) (sv_askedLast h0)) fun H2 e2 => ?_
    exact s_ret (ev_getCnt (ex_waysNew (ev_var rfl) (e2 _ _ (e1 _ _ ha)) hB) (ev_var rfl) ev_c) fun H3 e3 => q H3 ((e1.trans e2).trans e3)
/-- how_many of a new board -/
theorem ev_howManyNew {ta tb : TE} {σ : L2.St} {H : Hp} {E : XK} {ns : List Int} {x : Int} (ha : EvL ta σ H (ns.map V.int)) (hb : Ev tb σ H (.int x)) (hB : Board ns) (h : 0 ≤ x) : Ev (tCall spHowMany [] E (tCons ta (tCons tb tNil))) σ H (.int (wys ns x)) :=
  ev_x (exx_call back_V (RA := fun vs H2 => ∃ p, vs = [.ref p, .int x] ∧ H2 p = some (.lst (ns.map V.int))) (eax_l ha fun p H1 e1 hp => eax_v (hb.mono e1) (eax_nil fun H2 e2 => ⟨p, rfl, e2 _ _ hp⟩)) fun vs H1 e1 hvs => by
    obtain ⟨p, rfl, hp⟩ := hvs
    exact sp_vx fun H2 e2 Q q E => ⟨p, ns, x, rfl, e2 _ _ hp, hB, h, q⟩)
theorem sv_howMany {a : Addr} {ns : List Int} {x : Int} {H : Hp} (ha : H a = some (.lst (ns.map V.int))) (hB : Board ns) (h : 0 ≤ x) : SpV spHowMany [.ref a, .int x] H (.int (wys ns x)) := fun H1 e Q q E => ⟨a, ns, x, rfl, e _ _ ha, hB, h, q⟩
end
end Lw

--@ uses: sp_answer ways_of asked_board asked_last
namespace Lw
section
variable {P : Program} {w : World} {K : PySem.W.Frag} {mg : Str → Option Value} {base : Heap}
section
variable {σ : L2.St} {H : Hp} {ta td te tk : TE} {E : XK}
theorem xs_ways {a d : Addr} {cs : List Int} {kvs : List (List L2.Key × V)} (ha : Ev ta σ H (.ref a)) (hd : Ev td σ H (.ref d)) (hA : H a = some (.lst (cs.map V.int))) (hK : Kn H d kvs) (hB : Board cs) (hz : kvs.length + 3766 ≤ 1000000) :
    EvXS (tCall (spWaysOf 6) [] E (tCons ta (tCons td tNil))) σ H (fun v H2 => ∃ r es kvs', v = .ref r ∧ H2 r = some (.dK es) ∧ ExS [d] H H2 ∧ Kn H2 d kvs' ∧ Cnt es (wys cs) ∧ kvs'.length ≤ kvs.length + 3766) :=
  xs_call (RA := fun vs H1 => vs = [.ref a, .ref d] ∧ Ex H H1) (fun H1 e Q q => ha H1 e _ fun H2 e2 => hd H2 (e.trans e2) _ fun H3 e3 => q _ H3 (e2.trans e3) ⟨rfl, (e.trans e2).trans e3⟩) fun vs H1 e1 ⟨hv, _⟩ Q q => by
    subst hv
    have g := gK_six cs.length hB.six
    exact ⟨a, d, cs, kvs, rfl, e1 _ _ hA, hK.mono e1, hB.one, hB.six, Nat.le_refl _, hB.num, by omega, fun r es kvs' H' s K hr hC _ _ hl => q _ H' ⟨r, es, kvs', rfl, hr, (ExS.of e1).trans s, K, hC, by omega⟩⟩
end
theorem leftB_last {cs : List Int} {x : Int} (h : cs.length = 1) (hw : wys cs x ≠ 0) : leftB cs [] = some x := by
  obtain ⟨y, rfl⟩ := List.length_eq_one_iff.mp h
  have e : wys [y] x = if [y] = [x] then 1 else 0 := rfl
  rw [e] at hw
  by_cases hy : [y] = [x]
  · rw [hy]
    rfl
  · rw [if_neg hy] at hw
    exact absurd rfl hw
def spLed (CL CN : Addr) : Sp := fun vs H Q _ => ∃ (a : Addr) (ns : List Int) (x : Int), vs = [.ref a, .int x] ∧ H a = some (.lst (ns.map V.int)) ∧ Board ns ∧ 0 ≤ x ∧ (wys ns x = 0 → RetX (NNever CN) H Q) ∧ (wys ns x ≠ 0 → RetX (NLed CL ns x) H Q)
theorem ok_led {f f1 f2 f3 f4 f5 CA CL CN fi : Addr} {fd fd1 fd2 fd3 fd4 fd5 fdi : FuncData} (D : Df K mg "led" s_led ["board", "last"] f fd) (T : Blt mg) (A : Ans K mg CA CL CN fi)
    (o_asked_board : Ok P w K mg base CX0 2 "asked_board" s_asked_board ["board"] spAskedBoard f1 fd1)
    (o_asked_last : Ok P w K mg base CX0 2 "asked_last" s_asked_last ["last"] spAskedLast f2 fd2)
    (o_wiped_of : Ok P w K mg base CX0 1 "wiped_of" s_wiped_of ["board", "wiping"] spWipedOf f3 fd3)
    (o_wipings_of : Ok P w K mg base CX0 1 "wipings_of" s_wipings_of ["many"] spWipingsOf f4 fd4)
    (o_ways_of : Ok P w K mg base CX0 7 "ways_of" s_ways_of ["board", "known"] (spWaysOf 6) f5 fd5)
    (m_Led_init : Me P w K mg base CX0 1 CL "__init__" "Led.__init__" s_Led_init ["self", "wipings"] (spLedInit CL) fi fdi) : FnOk P w K mg base CX0 8 f fd ["board", "last"] (spLed CL CN) := by
  have ND := sc_led.nd
  refine D.F.ok sc_led (fun vs H Q E h => ?_) (fun cdv Ar outer s H vs Q E hr h => ?_)
  · obtain ⟨a, ns, x, rfl, _⟩ := h
    rfl
  · obtain ⟨a, ns, x, rfl, ha, hB, h0, qN, qL⟩ := h
    have hu := hu_of hr
    refine ⟨_, (pss_cons /- 93 -/ (ps_expr (pe_call o_asked_board.G (hr.mono (by first | decide | omega)) rfl o_asked_board.D.g o_asked_board.D.F.kp o_asked_board.D.b .nil pass0 (pa_cons (pv 0) pa_nil)))
      (pss_cons /- 94 -/ (ps_expr (pe_call o_asked_last.G (hr.mono (by first | decide | omega)) rfl o_asked_last.D.g o_asked_last.D.F.kp o_asked_last.D.b .nil pass0 (pa_cons (pv 1) pa_nil)))
      (pss_cons /- 95 -/ (ps_par3 (i := 2) (j := 3) (l := 4) (by rfl) ND rfl rfl rfl (by decide) (by decide) (by decide) rfl rfl rfl (pa_cons (pe_callTy (kList (K := K) rfl) (by rfl) T.list (by decide +kernel) (pa_cons (pv 0) pa_nil)) (pa_cons pe_dnewT (pa_cons (pe_lst pa_nil) pa_nil))) (by rfl))
      (pss_cons /- 96 -/ (ps_if (pt_cmp (pc_dnotin hu (pv 1) (pe_call o_ways_of.G (hr.mono (by first | decide | omega)) rfl o_ways_of.D.g o_ways_of.D.F.kp o_ways_of.D.b .nil pass0 (pa_cons (pv 2) (pa_cons (pv 3) pa_nil)))))
        (pss_one /- 97 -/ (ps_ret (pe_mk0 A.mk_Never rfl A.g_Never)))
        pss_nil)
      (pss_cons /- 98 -/ (ps_while PassesOwn.never (pt_cmpR op_gt (pe_callB (kLen (K := K) rfl) (by rfl) T.len PySem.boot_len (pa_cons (pv 2) pa_nil)) pe_int (nomark _))
        (pss_one /- 99 -/ (ps_for PassesOwn.never rfl (pi_list (pe_call o_wipings_of.G (hr.mono (by first | decide | omega)) rfl o_wipings_of.D.g o_wipings_of.D.F.kp o_wipings_of.D.b .nil pass0 (pa_cons (pe_callB (kLen (K := K) rfl) (by rfl) T.len PySem.boot_len (pa_cons (pv 2) pa_nil)) pa_nil))) (pg_name (i := 5) ND rfl (by first | exact .inl rfl | exact .inr rfl))
          (pss_cons /- 100 -/ (ps_set (i := 6) ND rfl (by first | exact .inl rfl | exact .inr rfl) (pe_call o_wiped_of.G (hr.mono (by first | decide | omega)) rfl o_wiped_of.D.g o_wiped_of.D.F.kp o_wiped_of.D.b .nil pass0 (pa_cons (pv 2) (pa_cons (pv 5) pa_nil))))
          (pss_one /- 101 -/ (ps_if (pt_cmp (pc_din hu (pv 1) (pe_call o_ways_of.G (hr.mono (by first | decide | omega)) rfl o_ways_of.D.g o_ways_of.D.F.kp o_ways_of.D.b .nil pass0 (pa_cons (pv 6) (pa_cons (pv 3) pa_nil)))))
            (pss_cons /- 102 -/ (ps_expr (pe_bm PySem.F.plainAttrs_list PySem.F.slot_list_append PySem.F.type_list_append mt_append (pv 4) (pa_cons (pv 5) pa_nil)))
            (pss_cons /- 103 -/ (ps_set (i := 2) ND rfl (by first | exact .inl rfl | exact .inr rfl) (pv 6))
            (pss_one /- 104 -/ ps_break)))
            pss_nil))))))
      (pss_one /- 105 -/ (ps_ret (pe_make A.mk_Led m_Led_init.G (hr.mono (by first | decide | omega)) rfl A.g_Led m_Led_init.D.b .nil pass0 (pa_cons (pv 4) pa_nil))))))))), ?_⟩
    refine q_drop (ev_call (ea_cons (ev_var rfl) ea_nil) (sv_askedBoard ha hB)) fun H1 e1 => ?_
    refine q_drop (ev_call (ea_cons (ev_var rfl) ea_nil) (sv_askedLast h0)) fun H2 e2 => ?_
    have e02 := e1.trans e2
    have ha2 := e02 _ _ ha
    refine q_par3 (RA := fun vs H3 => ∃ ph d lf, vs = [.ref ph, .ref d, .ref lf] ∧ H2 d = none ∧ H2 lf = none ∧ H3 ph = some (.lst (ns.map V.int)) ∧ H3 d = some (.dT []) ∧ H3 lf = some (.lst []))
      (eax_consB back_L (ex_l' (el_list (ev_var rfl) (sq_of ha2))) fun v H3 e3 ⟨ph, hv, _, h1⟩ => eax_consB back_DT ex_newT fun v2 H4 e4 ⟨d, hv2, hd0, h2⟩ => eax_consB back_L (ex_l' (el_lst ea_nil (by decide))) fun v3 H5 e5 ⟨lf, hv3, hl0, h3⟩ => eax_nil fun H6 e6 => ⟨ph, d, lf, by rw [hv, hv2, hv3], fresh_back e3 hd0, fresh_back (e3.trans e4) hl0, (((e4.trans e5).trans e6) _ _ h1), ((e5.trans e6) _ _ h2), e6 _ _ h3⟩) fun vs H3 e3 ⟨ph, d, lf, hvs, hd0, hl0, hph, hd, hlf⟩ => ⟨_, _, _, hvs, ?_⟩
    have Kn3 : Kn H3 d [] := ⟨hd, fun ns v hv => by cases hv⟩
    have lfd : lf ≠ d := ne_of hlf hd (fun z => nomatch z)
    have b6 := hB.six
    refine q_whenS (R := fun b H4 => b = !decide (wys ns x ≠ 0) ∧ ExS [d] H3 H4 ∧ ∃ kvs', Kn H4 d kvs' ∧ kvs'.length ≤ 3766) (ts_dnin (ev_var rfl) fun H4 e4 => ?_) (fun H4 ⟨hb, s4, kvs', K4, l4⟩ => ?_) (fun H4 ⟨hb, s4, kvs1, K4, l4⟩ => ?_)
    · refine fun Q' q' => xs_ways (ev_var rfl) (ev_var rfl) (e4 _ _ hph) (Kn3.mono e4) hB (by decide) Q' fun v H5 ⟨r, es, kvs', ev, hr5, s5, K5, hC, l5⟩ => q' v H5 ⟨r, es, ev, hr5, by rw [hC.has], (ExS.of e4).trans s5, kvs', K5, by rw [List.length_nil] at l5; omega⟩
    · have hw : wys ns x = 0 := by
        by_cases z : wys ns x = 0
        · exact z
        · rw [decide_eq_true z] at hb
          cases hb
      refine s_retX ex_newNever fun v H5 e5 hv => ?_
      have eH : Ex H2 H4 := ExS.ex e3 s4 fun m hm => by rw [List.mem_singleton.mp hm]; exact hd0
      exact qN hw v H5 ((e02.trans eH).trans e5) (back_Never _ _ _ _ (e02.trans eH) hv)
    · have hw : wys ns x ≠ 0 := fun z => by
        rw [decide_eq_false (fun y => y z)] at hb
        cases hb
      have hph4 := s4 ph _ (by simp only [List.mem_singleton]; exact ne_of hph hd (fun z => nomatch z)) hph
      have hlf4 := s4 lf _ (by simp only [List.mem_singleton]; exact lfd) hlf
      refine q_while (fun m σ' H' => ∃ y5 y6 ph cs kvs ps ws, σ' = [some (.ref a), some (.int x), some (.ref ph), some (.ref d), some (.ref lf), y5, y6] ∧ ExS [d, lf] H3 H' ∧ H' ph = some (.lst (cs.map V.int)) ∧ cs.length = m ∧ Board cs ∧ wys cs x ≠ 0 ∧ Kn H' d kvs ∧ kvs.length ≤ 3766 + 56490 * ps.length ∧ H' lf = some (.lst ws) ∧ Prs H' ws ps ∧ ps.length + cs.length = ns.length ∧ ∀ qs, leftB cs qs = some x → leftB ns (ps ++ qs) = some x)
        ns.length ⟨none, none, ph, ns, kvs1, [], [], rfl, s4.more (by simp), hph4, rfl, hB, hw, K4, by rw [List.length_nil]; omega, hlf4, .nil, by rw [List.length_nil]; omega, fun qs h => h⟩ (fun m σ' H' ⟨y5, y6, ph, cs, kvs, ps, ws, hs, s, hph, hm, hBc, hwc, hK, hkl, hlf, hps, hpl, hL⟩ => ?_)
      subst hs
      have hcl : (cs.map V.int).length = cs.length := List.length_map _
      refine ⟨_, et_test (ev_op (ev_len (ev_var rfl) (sq_of hph)) ev_c rv_I0), fun hb H5 e5 => ⟨fun σ2 H2 => ∃ m', m' < m ∧ _, fun σ2 H2 h => h, ?_⟩, fun hb H5 e5 => ?_⟩
      · have h2 : 2 ≤ cs.length := by
          have := of_decide_eq_true hb
          omega
        have hph5 := e5 _ _ hph
        have hlen : V.int (((cs.map V.int).length : Nat) : Int) = V.int (cs.length : Int) := by rw [hcl]
        have c6 := hBc.six
        have K5 := hK.mono e5
        have hlf5 := e5 _ _ hlf
        refine s_forP (ex_call back_P (ea_cons (ev_is (ev_len (ev_var rfl) (sq_of hph5)) hlen) ea_nil) (sx_wipingsOf (by omega))) fun p xs H6 hp0 e6 hxs hpr6 => ?_
        have K6 := K5.mono e6
        have e56 := e5.trans e6
        have pd : p ≠ d := ne_of hxs K6.at' (fun z => nomatch z)
        have phd : ph ≠ d := ne_of hph hK.at' (fun z => nomatch z)
        refine ⟨fun i σ' H' => ∃ y5 y6 kvs', σ' = [some (.ref a), some (.int x), some (.ref ph), some (.ref d), some (.ref lf), y5, y6] ∧ ExS [d] H6 H' ∧ Kn H' d kvs' ∧ kvs'.length ≤ kvs.length + 3766 * i ∧ ∀ pr ∈ (pairsOf cs.length).take i, wys (wp cs pr.1 pr.2) x = 0,
          ⟨_, _, kvs, rfl, ExS.refl _, K6, by omega, fun pr hpr => by rw [List.take_zero] at hpr; cases hpr⟩, fun i σ' H' ⟨_, _, _, _, s, _⟩ => s p _ (by simp only [List.mem_singleton]; exact pd) hxs, fun i pr t σ' H' hpr ht ⟨u5, u6, kvs', hs, s7, K7, l7, hz⟩ => ?_, fun σ' H' ⟨u5, u6, kvs', hs, s7, K7, l7, hz⟩ => ?_⟩
        · subst hs
          obtain ⟨p0, p1, p2⟩ := pairs_mem (List.mem_of_getElem? hpr)
          have hi := (List.getElem?_eq_some_iff.mp hpr).1
          have hwl := wp_len p0 p1 p2
          have hwb := wp_bound p0 p1 p2 hBc.num
          have hBw : Board (wp cs pr.1 pr.2) := ⟨by omega, by omega, hwb⟩
          have p15 : (pairsOf cs.length).length ≤ 15 := by
            have : ∀ n, n ≤ 6 → (pairsOf n).length ≤ 15 := by
              intro n h
              rcases n with _ | _ | _ | _ | _ | _ | _ | n
              all_goals first | decide | (exfalso; omega)
            exact this _ c6
          have hph7 := s7 ph _ (by simp only [List.mem_singleton]; exact phd) (e6 _ _ hph5)
          have ht7 := s7 t _ (by simp only [List.mem_singleton]; exact ne_of ht K6.at' (fun z => nomatch z)) ht
          have hlf7 := s7 lf _ (by simp only [List.mem_singleton]; exact lfd) (e6 _ _ hlf5)
          refine q_asgL (el_call (ea_cons (ev_var rfl) (ea_cons (ev_var rfl) ea_nil)) (sl_wipedOf hph7 ht7 p0 p1 p2 (by omega))) fun pw H8 hpw e8 h8 => ?_
          have pwlf : pw ≠ lf := fun z => by rw [z, hlf7] at hpw; cases hpw
          refine s_whenS (R := fun b H9 => b = decide (wys (wp cs pr.1 pr.2) x ≠ 0) ∧ ExS [d] H8 H9 ∧ ∃ kvs'', Kn H9 d kvs'' ∧ kvs''.length ≤ kvs'.length + 3766) (ts_din (ev_var rfl) fun H9 e9 => ?_) (fun H9 ⟨hb9, s9, kvs'', K9, l9⟩ => ?_) (fun H9 ⟨hb9, s9, kvs'', K9, l9⟩ => ?_)
          · refine fun Q' q' => xs_ways (ev_var rfl) (ev_var rfl) (e9 _ _ h8) ((K7.mono e8).mono e9) hBw (by omega) Q' fun v H10 ⟨r, es, kvs'', ev, hr5, s5, K5, hC, l5⟩ => q' v H10 ⟨r, es, ev, hr5, by rw [hC.has], (ExS.of e9).trans s5, kvs'', K5, l5⟩
          · have hww : wys (wp cs pr.1 pr.2) x ≠ 0 := of_decide_eq_true hb9.symm
            have pwd : pw ≠ d := ne_of h8 ((K7.mono e8).at') (fun z => nomatch z)
            have h9 := s9 pw _ (by simp only [List.mem_singleton]; exact pwd) h8
            have hlf9 := s9 lf _ (by simp only [List.mem_singleton]; exact lfd) (e8 _ _ hlf7)
            have s69 : ExS [d] H6 H9 := (s7.trans (ExS.of e8)).trans s9
            have hps9 : Prs H9 ws ps := Paired.mapP (hps.mono e56) fun v q ⟨t', g1, g2⟩ => ⟨t', g1, s69 t' _ (by simp only [List.mem_singleton]; exact ne_of g2 K6.at' (fun z => nomatch z)) g2⟩
            have ht9 := s69 t _ (by simp only [List.mem_singleton]; exact ne_of ht K6.at' (fun z => nomatch z)) ht
            have hwslen := hps.len
            refine q_app (l := lf) hlf9 (ev_var rfl) (ev_var rfl) (by omega) fun H10 e10 => ?_
            refine q_asg (v := .ref pw) (ev_var rfl) fun H11 e11 => ?_
            have tlf : t ≠ lf := ne_of ht9 hlf9 (fun z => nomatch z)
            refine ⟨m - 1, by omega, _, _, pw, wp cs pr.1 pr.2, kvs'', ps ++ [pr], ws ++ [.ref t], rfl, ?_, ?_, by omega, hBw, hww, ?_, ?_, e11 _ _ upd_same, ?_, ?_, fun qs hq => ?_⟩
            · refine ExS.trans ?_ (ExS.of e11)
              exact ((((s.trans (ExS.of e56)).trans (s69.more (by simp))).trans (ExS.of e10))).put (by simp)
            · refine e11 _ _ ?_
              rw [upd_ne pwlf]
              exact e10 _ _ h9
            · refine Kn.mono ⟨?_, fun ns' v hv => ?_⟩ e11
              · rw [upd_ne (Ne.symm lfd)]
                exact e10 _ _ K9.at'
              · obtain ⟨r, es, g1, g2, g3⟩ := K9.val ns' v hv
                refine ⟨r, es, g1, ?_, g3⟩
                rw [upd_ne (ne_of g2 hlf9 (fun z => nomatch z))]
                exact e10 _ _ g2
            · rw [List.length_append, List.length_singleton]
              omega
            · refine Prs.mono e11 (Prs.stay (D := lf) (acc := ws) (e10 _ _ hlf9) (fun a' o na ho => by rw [upd_ne na]; exact ho) ((hps9.mono e10).append (.cons ⟨t, rfl, e10 _ _ ht9⟩ .nil)))
            · rw [List.length_append, List.length_singleton]
              omega
            · rw [List.append_assoc]
              refine hL (pr :: qs) ?_
              rw [leftB_ok ⟨p0, p1, p2⟩]
              exact hq
          · have hww : wys (wp cs pr.1 pr.2) x = 0 := by
              by_cases z : wys (wp cs pr.1 pr.2) x = 0
              · exact z
              · rw [decide_eq_true z] at hb9
                cases hb9
            refine ⟨_, _, kvs'', rfl, (s7.trans (ExS.of e8)).trans s9, K9, by omega, fun pr' hpr' => ?_⟩
            rw [List.take_add_one, hpr] at hpr'
            rcases List.mem_append.mp hpr' with h | h
            · exact hz pr' h
            · rw [show pr' = pr by simpa using h]
              exact hww
        · -- some wiping leads on
          rw [List.take_length] at hz
          rw [wys_step h2] at hwc
          obtain ⟨y, hy, hy2⟩ := sum_ne hwc
          obtain ⟨pr, hpr, rfl⟩ := List.mem_map.mp hy
          exact absurd (hz pr hpr) hy2
      · have h1 : cs.length = 1 := by
          have := of_decide_eq_false hb
          have := hBc.one
          omega
        have hlf5 := e5 _ _ hlf
        refine s_retX (ex_newLed (ev_var rfl) hlf5) fun v H6 e6 ⟨r, dx, l', ev, hr0, hl0', hr6, hl6⟩ => ?_
        have eH : Ex H2 H5 := (ExS.ex e3 s fun m hm => by
          rcases List.mem_cons.mp hm with z | hm
          · rw [z]; exact hd0
          · rw [List.mem_singleton.mp hm]; exact hl0).trans e5
        have eA := e02.trans eH
        have := hL [] (leftB_last h1 hwc)
        rw [List.append_nil] at this
        exact qL hw v H6 (eA.trans e6) ⟨r, dx, l', ws, ps, ev, fresh_back eA hr0, fresh_back eA hl0', hr6, hl6, (hps.mono e5).mono e6, this⟩
theorem sx_ledN {CL CN a : Addr} {ns : List Int} {x : Int} {H : Hp} (ha : H a = some (.lst (ns.map V.int))) (hB : Board ns) (h0 : 0 ≤ x) (hw : wys ns x = 0) : SpX (spLed CL CN) [.ref a, .int x] H (NNever CN) := fun H1 e Q q E => ⟨a, ns, x, rfl, e _ _ ha, hB, h0, fun _ => q, fun z => absurd hw z⟩
theorem sx_ledL {CL CN a : Addr} {ns : List Int} {x : Int} {H : Hp} (ha : H a = some (.lst (ns.map V.int))) (hB : Board ns) (h0 : 0 ≤ x) (hw : wys ns x ≠ 0) : SpX (spLed CL CN) [.ref a, .int x] H (NLed CL ns x) := fun H1 e Q q E => ⟨a, ns, x, rfl, e _ _ ha, hB, h0, fun z => absurd z hw, fun _ => q⟩
end
end Lw

--@ uses: asked_board is_wiping wiped_of
namespace Lw
section
variable {P : Program} {w : World} {K : PySem.W.Frag} {mg : Str → Option Value} {base : Heap}
def spWiped : Sp := fun vs H Q _ => ∃ (a t : Addr) (ns : List Int) (i j : Int), vs = [.ref a, .ref t] ∧ H a = some (.lst (ns.map V.int)) ∧ H t = some (.tup [.int i, .int j]) ∧ Board ns ∧ 0 ≤ i ∧ i < j ∧ j < ns.length ∧ RetL ((wp ns i j).map V.int) H Q
theorem ok_wiped {f f1 f2 f3 : Addr} {fd fd1 fd2 fd3 : FuncData} (D : Df K mg "wiped" s_wiped ["board", "wiping"] f fd) (T : Blt mg)
    (o_asked_board : Ok P w K mg base CX0 2 "asked_board" s_asked_board ["board"] spAskedBoard f1 fd1)
    (o_is_wiping : Ok P w K mg base CX0 2 "is_wiping" s_is_wiping ["thing", "many"] spIsWiping f2 fd2)
    (o_wiped_of : Ok P w K mg base CX0 1 "wiped_of" s_wiped_of ["board", "wiping"] spWipedOf f3 fd3) : FnOk P w K mg base CX0 3 f fd ["board", "wiping"] spWiped := by
  have ND := sc_wiped.nd
  refine D.F.ok sc_wiped (fun vs H Q E h => ?_) (fun cdv A outer s H vs Q E hr h => ?_)
  · obtain ⟨a, t, ns, i, j, rfl, _⟩ := h
    rfl
  · obtain ⟨a, t, ns, i, j, rfl, ha, ht, hb, h0, h1, h2, q⟩ := h
    refine ⟨_, (pss_cons /- 31 -/ (ps_expr (pe_call o_asked_board.G (hr.mono (by first | decide | omega)) rfl o_asked_board.D.g o_asked_board.D.F.kp o_asked_board.D.b .nil pass0 (pa_cons (pv 0) pa_nil)))
      (pss_cons /- 32 -/ (ps_if (pt_not (pt_val (pe_call o_is_wiping.G (hr.mono (by first | decide | omega)) rfl o_is_wiping.D.g o_is_wiping.D.F.kp o_is_wiping.D.b .nil pass0 (pa_cons (pv 1) (pa_cons (pe_callB (kLen (K := K) rfl) (by rfl) T.len PySem.boot_len (pa_cons (pv 0) pa_nil)) pa_nil)))))
        (pss_one /- 33 -/ ps_never)
        pss_nil)
      (pss_one /- 34 -/ (ps_ret (pe_call o_wiped_of.G (hr.mono (by first | decide | omega)) rfl o_wiped_of.D.g o_wiped_of.D.F.kp o_wiped_of.D.b .nil pass0 (pa_cons (pv 0) (pa_cons (pv 1) pa_nil))))))), ?_⟩
    have hl : (ns.map V.int).length = ns.length := List.length_map _
    refine q_drop (ev_call (ea_cons (ev_var rfl) ea_nil) (sv_askedBoard ha hb)) fun H1 e1 => ?_
    have ha1 := e1 _ _ ha
    have ht1 := e1 _ _ ht
    refine q_when (b := false) ?_ (fun h => nomatch h) fun _ H2 e2 => ?_
    · refine et_is (et_not (et_B (ev_call (ea_cons (ev_var rfl) (ea_cons (ev_len (ev_var rfl) (sq_of ha1)) ea_nil)) (sv_isWiping ht1)))) ?_
      rw [hl, decide_eq_true h0, decide_eq_true h1, decide_eq_true h2]
      rfl
    · refine s_retL (el_call (ea_cons (ev_var rfl) (ea_cons (ev_var rfl) ea_nil)) (sl_wipedOf (e2 _ _ ha1) (e2 _ _ ht1) h0 h1 h2 (by have := hb.six; omega))) fun p H3 hp e3 h3 => q p H3 (fresh_back e1 (fresh_back e2 hp)) ((e1.trans e2).trans e3) h3
theorem sl_wiped {a t : Addr} {ns : List Int} {i j : Int} {H : Hp} (ha : H a = some (.lst (ns.map V.int))) (ht : H t = some (.tup [.int i, .int j])) (hb : Board ns) (h0 : 0 ≤ i) (h1 : i < j) (h2 : j < ns.length) : SpL spWiped [.ref a, .ref t] H ((wp ns i j).map V.int) :=
  fun H1 e Q q E => ⟨a, t, ns, i, j, rfl, e _ _ ha, e _ _ ht, hb, h0, h1, h2, fun p H2 hp e2 h2 => q p H2 hp e2 h2⟩
/-- wiped of a written board and pair -/
theorem el_wipedNew {ta tb : TE} {σ : L2.St} {H : Hp} {E : XK} {xs : List Int} {i j : Int} (ha : EvL ta σ H (xs.map V.int)) (hb : EvU tb σ H [.int i, .int j]) (hB : Board xs) (h0 : 0 ≤ i) (h1 : i < j) (h2 : j < xs.length) :
    EvL (tCall spWiped [] E (tCons ta (tCons tb tNil))) σ H ((wp xs i j).map V.int) :=
  el_x (exx_call back_L (RA := fun vs H2 => ∃ p t, vs = [.ref p, .ref t] ∧ H2 p = some (.lst (xs.map V.int)) ∧ H2 t = some (.tup [.int i, .int j]))
    (eax_l ha fun p H1 e1 hp => eax_u (fun H2 e2 => hb H2 (e1.trans e2)) fun t H2 e2 ht => eax_nil fun H3 e3 => ⟨p, t, rfl, e3 _ _ (e2 _ _ hp), e3 _ _ ht⟩)
    fun vs H1 e1 ⟨p, t, e, hp, ht⟩ => by
      subst e
      exact sp_lx (sl_wiped hp ht hB h0 h1 h2))
end
end Lw

--@ uses: words8 law_due law_unlike lasts how_many led wiped
namespace Lw
section
variable {P : Program} {w : World} {K : PySem.W.Frag} {mg : Str → Option Value} {base : Heap}
def spRight8 : Sp := fun vs H Q _ => ∃ (a : Addr) (ns : List Int) (wh : Int), vs = [.ref a, .int wh] ∧ H a = some (.lst (ns.map V.int)) ∧ Board ns ∧ RetV (.bl true) H Q
theorem ok_law_right {f f1 f2 f3 f4 f5 f6 f7 f8 f9 f10 CA CL CN fi : Addr} {fd fd1 fd2 fd3 fd4 fd5 fd6 fd7 fd8 fd9 fd10 : FuncData} (D : Df K mg "_law_right" s_law_right ["_law_board_here", "_law_whole"] f fd) (T : Blt mg) (A : Ans K mg CA CL CN fi)
    (o_law_tally : Ok P w K mg base CX0 2 "_law_tally" s_law_tally ["_law_board_here"] spLawTally f1 fd1)
    (o_lasts : Ok P w K mg base CX0 8 "lasts" s_lasts ["board"] spLasts f2 fd2)
    (o_law_pairs : Ok P w K mg base CX0 1 "_law_pairs" s_law_pairs ["_law_many"] spLawPairs f3 fd3)
    (o_wiped : Ok P w K mg base CX0 3 "wiped" s_wiped ["board", "wiping"] spWiped f4 fd4)
    (o_law_wiped : Ok P w K mg base CX0 1 "_law_wiped" s_law_wiped ["_law_board_here", "_law_pair"] spWipedOf f5 fd5)
    (o_how_many : Ok P w K mg base CX0 8 "how_many" s_how_many ["board", "last"] spHowMany f6 fd6)
    (o_led : Ok P w K mg base CX0 8 "led" s_led ["board", "last"] (spLed CL CN) f7 fd7)
    (o_law_due : Ok P w K mg base CX0 3 "_law_due" s_law_due ["_law_board_here", "_law_last", "_law_answer"] (spLawDue CL CN) f8 fd8)
    (o_boards_behind : Ok P w K mg base CX0 3 "boards_behind" s_boards_behind ["board", "many"] spBoardsBehind f9 fd9)
    (o_law_unlike : Ok P w K mg base CX0 2 "_law_unlike" s_law_unlike ["_law_board_here", "_law_many"] spBoardsBehind f10 fd10) : FnOk P w K mg base CX0 9 f fd ["_law_board_here", "_law_whole"] spRight8 := by
  have ND := sc_law_right.nd
  refine D.F.ok sc_law_right (fun vs H Q E h => ?_) (fun cdv Ar outer s H vs Q E hr h => ?_)
  · obtain ⟨a, ns, wh, rfl, _⟩ := h
    rfl
  · obtain ⟨a, ns, wh, rfl, ha, hB, q⟩ := h
    have hu := hu_of hr
    have b6 := hB.six
    have b1 := hB.one
    have hl : (ns.map V.int).length = ns.length := List.length_map _
    have hlen : V.int (((ns.map V.int).length : Nat) : Int) = V.int (ns.length : Int) := by rw [hl]
    obtain ⟨ls, hI, lpos, lprop⟩ := isLasts_some hB
    have lfew := lasts_few hI b1 b6
    have hll : (ls.map V.int).length = ls.length := List.length_map _
    refine ⟨_, (pss_cons /- 178 -/ (ps_set (i := 2) ND rfl (by first | exact .inl rfl | exact .inr rfl) (pe_call o_law_tally.G (hr.mono (by first | decide | omega)) rfl o_law_tally.D.g o_law_tally.D.F.kp o_law_tally.D.b .nil pass0 (pa_cons (pv 0) pa_nil)))
      (pss_cons /- 179 -/ (ps_set (i := 3) ND rfl (by first | exact .inl rfl | exact .inr rfl) (pe_callB (kSortI (K := K) rfl) (by rfl) T.sorted (by decide +kernel) (pa_cons (pe_lock (pe_lc (own := [("_law_last", 5)]) (by rfl) ND (pi_keys (pv 2)) (blkOk_by (own := [("_law_last", 5)]) (N := ["_law_board_here", "_law_whole", "_law_tally_here", "_law_due_here", "_law_pair", "_law_last", "_law_answer", "_law_many"]) (sc := defScope s_law_right) (by decide +kernel)) (fun _ _ _ _ _ => (pg_name (i := 5) ND rfl (.inl rfl))) (fun _ _ _ _ _ => (pts_one (pt_cmpR op_gt (pe_dget hu (pv 2) (pv 5) (fun _ _ => rfl)) pe_int (nomark _)))) (fun _ _ _ _ _ => (pv 5)))) pa_nil)))
      (pss_cons /- 180 -/ (ps_if (pt_cmpR (kNeD (K := K) rfl hr.units) (pe_call o_lasts.G (hr.mono (by first | decide | omega)) rfl o_lasts.D.g o_lasts.D.F.kp o_lasts.D.b .nil pass0 (pa_cons (pv 0) pa_nil)) (pv 3) (nomark _))
        (pss_one /- 181 -/ (ps_ret pe_bl))
        pss_nil)
      (pss_cons /- 182 -/ (ps_expr (pe_bm PySem.F.plainAttrs_list PySem.F.slot_list_append PySem.F.type_list_append mt_append (pe_call o_lasts.G (hr.mono (by first | decide | omega)) rfl o_lasts.D.g o_lasts.D.F.kp o_lasts.D.b .nil pass0 (pa_cons (pv 0) pa_nil)) (pa_cons (pe_un un_neg pe_int) pa_nil)))
      (pss_cons /- 183 -/ (ps_for PassesOwn.never rfl (pi_list (pe_call o_law_pairs.G (hr.mono (by first | decide | omega)) rfl o_law_pairs.D.g o_law_pairs.D.F.kp o_law_pairs.D.b .nil pass0 (pa_cons (pe_callB (kLen (K := K) rfl) (by rfl) T.len PySem.boot_len (pa_cons (pv 0) pa_nil)) pa_nil))) (pg_name (i := 4) ND rfl (by first | exact .inl rfl | exact .inr rfl))
        (pss_cons /- 184 -/ (ps_if (pt_cmpR (kNeD (K := K) rfl hr.units) (pe_call o_wiped.G (hr.mono (by first | decide | omega)) rfl o_wiped.D.g o_wiped.D.F.kp o_wiped.D.b .nil pass0 (pa_cons (pv 0) (pa_cons (pv 4) pa_nil))) (pe_call o_law_wiped.G (hr.mono (by first | decide | omega)) rfl o_law_wiped.D.g o_law_wiped.D.F.kp o_law_wiped.D.b .nil pass0 (pa_cons (pv 0) (pa_cons (pv 4) pa_nil))) (nomark _))
          (pss_one /- 185 -/ (ps_ret pe_bl))
          pss_nil)
        (pss_one /- 186 -/ (ps_expr (pe_bm0 PySem.F.plainAttrs_list PySem.F.slot_list_clear PySem.F.type_list_clear mt_clear (pe_call o_wiped.G (hr.mono (by first | decide | omega)) rfl o_wiped.D.g o_wiped.D.F.kp o_wiped.D.b .nil pass0 (pa_cons (pv 0) (pa_cons (pv 4) pa_nil))))))))
      (pss_cons /- 187 -/ (ps_for PassesOwn.never rfl (pi_list (pe_lst (pa_cons (pe_ix (kIxL (K := K) rfl) (pv 3) (pe_op op_mod (pv 1) (pe_callB (kLen (K := K) rfl) (by rfl) T.len PySem.boot_len (pa_cons (pv 3) pa_nil))) (fun _ _ => rfl)) (pa_cons (pe_op op_add (pe_ix (kIxL (K := K) rfl) (pv 3) (pe_un un_neg pe_int) (fun _ _ => rfl)) pe_int) (pa_cons pe_int pa_nil))))) (pg_name (i := 5) ND rfl (by first | exact .inl rfl | exact .inr rfl))
        (pss_cons /- 188 -/ (ps_if (pt_cmpR op_ne (pe_call o_how_many.G (hr.mono (by first | decide | omega)) rfl o_how_many.D.g o_how_many.D.F.kp o_how_many.D.b .nil pass0 (pa_cons (pv 0) (pa_cons (pv 5) pa_nil))) (pe_dget2 hu (pv 2) (pv 5) pe_int ⟨rfl, rfl, rfl, rfl⟩) (nomark _))
          (pss_one /- 189 -/ (ps_ret pe_bl))
          pss_nil)
        (pss_cons /- 190 -/ (ps_set (i := 6) ND rfl (by first | exact .inl rfl | exact .inr rfl) (pe_call o_led.G (hr.mono (by first | decide | omega)) rfl o_led.D.g o_led.D.F.kp o_led.D.b .nil pass0 (pa_cons (pv 0) (pa_cons (pv 5) pa_nil))))
        (pss_cons /- 191 -/ (ps_if (PW.pt (pw_or (pt_cmpR op_ne (pe_callB (kIsi (K := K) rfl) (by rfl) T.isinstance (by decide +kernel) (pa_cons (pv 6) (pa_cons (pe_glob (v := .ref _) rfl A.g_Led rfl) pa_nil))) (pe_cmpR (kIn (K := K) rfl) (pv 5) (pv 3) (by rfl)) (nomark _)) (pw_or1 (pt_not (pt_val (pe_call o_law_due.G (hr.mono (by first | decide | omega)) rfl o_law_due.D.g o_law_due.D.F.kp o_law_due.D.b .nil pass0 (pa_cons (pv 0) (pa_cons (pv 5) (pa_cons (pv 6) pa_nil)))))))))
          (pss_one /- 192 -/ (ps_ret pe_bl))
          pss_nil)
        (pss_one /- 193 -/ (ps_if (pt_val (pe_callB (kIsi (K := K) rfl) (by rfl) T.isinstance (by decide +kernel) (pa_cons (pv 6) (pa_cons (pe_glob (v := .ref _) rfl A.g_Led rfl) pa_nil))))
          (pss_one /- 194 -/ (ps_expr (pe_bm PySem.F.plainAttrs_list PySem.F.slot_list_append PySem.F.type_list_append mt_append (pe_fld (pv 6) rfl) (pa_cons (pe_tup (pa_cons pe_int (pa_cons pe_int pa_nil))) pa_nil))))
          (pss_one /- 195 -/ (ps_if (pt_not (pt_val (pe_callB (kIsi (K := K) rfl) (by rfl) T.isinstance (by decide +kernel) (pa_cons (pv 6) (pa_cons (pe_glob (v := .ref _) rfl A.g_Never rfl) pa_nil)))))
            (pss_one /- 196 -/ (ps_ret pe_bl))
            pss_nil))))))))
      (pss_cons /- 197 -/ (ps_set (i := 7) ND rfl (by first | exact .inl rfl | exact .inr rfl) (pe_op op_mod (pe_op op_fdivW (pv 1) pe_int) (pe_callB (kLen (K := K) rfl) (by rfl) T.len PySem.boot_len (pa_cons (pv 0) pa_nil))))
      (pss_one /- 198 -/ (ps_ret (pe_cmpR op_eq (pe_call o_boards_behind.G (hr.mono (by first | decide | omega)) rfl o_boards_behind.D.g o_boards_behind.D.F.kp o_boards_behind.D.b .nil pass0 (pa_cons (pv 0) (pa_cons (pv 7) pa_nil))) (pe_call o_law_unlike.G (hr.mono (by first | decide | omega)) rfl o_law_unlike.D.g o_law_unlike.D.F.kp o_law_unlike.D.b .nil pass0 (pa_cons (pv 0) (pa_cons (pv 7) pa_nil))) (nomark _))))))))))), ?_⟩
    refine q_asgX (ex_call back_Cnt (ea_cons (ev_var rfl) ea_nil) (sx_lawTally ha hB)) fun v H1 e1 ⟨d, es, hv, _, hd, hC⟩ => ?_
    subst hv
    have hel := hC.len fun y hy => ways_range hB.num hy
    refine q_asgL (el_sortPos (i := 2) (j := 5) rfl hd hC hI (by omega) (fun x => rfl) (fun x => rfl) (fun x => rfl)) fun pl H2 hpl e2 h2 => ?_
    have ha2 := e2 _ _ (e1 _ _ ha)
    refine q_when (b := false) ?_ (fun h => nomatch h) fun _ H3 e3 => ?_
    · refine et_is (et_test (ev_neD (x := ls) (ed_l (el_lasts (ex_call back_Lasts (ea_cons (ev_var rfl) ea_nil) (sx_lasts ha2 hB)) hI)) (ed_v (ev_var rfl) (at_intsH h2)))) ?_
      rw [decide_eq_true rfl]
      rfl
    have ha3 := e3 _ _ ha2
    refine q_appN (el_lasts (ex_call back_Lasts (ea_cons (ev_var rfl) ea_nil) (sx_lasts ha3 hB)) hI) (ev_un ev_c ru_neg) (by omega) fun H4 e4 => ?_
    have ha4 := e4 _ _ ha3
    have e14 := ((e1.trans e2).trans e3).trans e4
    have h4 := (e3.trans e4) _ _ h2
    have hd4 := ((e2.trans e3).trans e4) _ _ hd
    refine q_forP (ex_call back_P (ea_cons (ev_is (ev_len (ev_var rfl) (sq_of ha4)) hlen) ea_nil) (sx_lawPairs b6)) fun pp xs H5 hpp e5 hxs hps => ?_
    have ha5 := e5 _ _ ha4
    refine ⟨fun i σ' H' => ∃ y4, σ' = [some (.ref a), some (.int wh), some (.ref d), some (.ref pl), y4, none, none, none] ∧ Ex H5 H', ⟨_, rfl, Ex.refl _⟩, fun i σ' H' ⟨_, _, e⟩ => e _ _ hxs, fun i pr t σ' H6 hpr ht ⟨z4, hs, e6⟩ => ?_, fun σ' H6 ⟨z4, hs, e6⟩ => ?_⟩
    · subst hs
      obtain ⟨p0, p1, p2⟩ := pairs_mem (List.mem_of_getElem? hpr)
      have ha6 := e6 _ _ ha5
      have ht6 := e6 _ _ ht
      refine q_when (b := false) ?_ (fun h => nomatch h) fun _ H7 e7 => ?_
      · refine et_is (et_test (ev_neD (x := wp ns pr.1 pr.2) (ed_l (el_call (ea_cons (ev_var rfl) (ea_cons (ev_var rfl) ea_nil)) (sl_wiped ha6 ht6 hB p0 p1 p2))) (ed_l (el_call (ea_cons (ev_var rfl) (ea_cons (ev_var rfl) ea_nil)) (sl_wipedOf ha6 ht6 p0 p1 p2 (by omega)))))) ?_
        rw [decide_eq_true rfl]
        rfl
      · exact s_clearN (el_call (ea_cons (ev_var rfl) (ea_cons (ev_var rfl) ea_nil)) (sl_wiped (e7 _ _ ha6) (e7 _ _ ht6) hB p0 p1 p2)) fun H8 e8 => ⟨_, rfl, (e6.trans e7).trans e8⟩
    · subst hs
      have e46 := e5.trans e6
      have ha6 := e46 _ _ ha4
      have h6 := e46 _ _ h4
      have hd6 := e46 _ _ hd4
      have lp : (0 : Int) < ((ls.map V.int).length : Int) := by omega
      obtain ⟨k, hk, hkl⟩ : ∃ k : Int, k = wh % ((ls.map V.int).length : Int) ∧ (0 ≤ k ∧ k < ls.length) := ⟨_, rfl, Int.emod_nonneg _ (by omega), by
        have := Int.emod_lt_of_pos wh lp
        rw [hll] at this ⊢
        exact this⟩
      have hg : ∀ j : Nat, j < ls.length → 0 ≤ ls.getD j 0 := fun j hj => (lprop _ (getD_mem hj)).1
      refine q_forNLn (xs := [ls.getD k.toNat 0, ls.getD (ls.length - 1) 0 + 1, 0].map V.int) ?_ (fun p2 i σ' H' => ∃ y5 y6, σ' = [some (.ref a), some (.int wh), some (.ref d), some (.ref pl), z4, y5, y6, none] ∧ Ex H6 H' ∧ H' p2 = some (.lst ([ls.getD k.toNat 0, ls.getD (ls.length - 1) 0 + 1, 0].map V.int)))
        (fun p2 H7 hp2 e7 h7 => ⟨_, _, rfl, e7, h7⟩) (fun p2 i σ' H' _ ⟨_, _, _, _, h⟩ => sq_of h) (fun p2 i x σ' H7 hx ⟨u5, u6, hs, e7, h7⟩ => ?_) (fun p2 σ' H7 ⟨u5, u6, hs, e7, h7⟩ => ?_)
      · refine el_lst (ea_cons ?_ (ea_cons (ev_op ?_ ev_c rv_I0) (ea_cons ev_c ea_nil))) (by show 3 ≤ 100000; decide)
        · refine ev_op (ev_var rfl) (ev_op (ev_var rfl) (ev_len (ev_var rfl) (sq_of h6)) (rv_I lp)) (rv_ixL (sq_of h6) ?_)
          rw [← hk]
          exact at_int_i hkl.1 hkl.2
        · exact ev_op (ev_var rfl) (ev_un ev_c ru_neg) (rv_ixL (sq_of h6) (at_lastI lpos))
      · subst hs
        obtain ⟨n, hn, rfl⟩ := int_at hx
        have hn0 : 0 ≤ n := by
          have := List.mem_of_getElem? hn
          simp only [List.mem_cons, List.not_mem_nil, or_false] at this
          have g1 := hg (ls.length - 1) (by omega)
          have g2 := hg k.toNat (by omega)
          rcases this with h | h | h
          · omega
          · omega
          · omega
        have ha7 := e7 _ _ ha6
        refine q_when (b := false) ?_ (fun h => nomatch h) fun _ H8 e8 => ?_
        · refine et_is (et_test (ev_op (ev_call (ea_cons (ev_var rfl) (ea_cons (ev_var rfl) ea_nil)) (sv_howMany ha7 hB hn0)) (ev_is (ev_dget2K (ev_var rfl) (ev_var rfl) ev_c (.inl (e7 _ _ hd6))) (hC.get n)) (rv_ne rfl))) ?_
          rw [decide_eq_true rfl]
          rfl
        have ha8 := e8 _ _ ha7
        have e68 := e7.trans e8
        have h8 := e68 _ _ h6
        by_cases hw : wys ns n = 0
        · refine q_asgX (ex_call back_Never (ea_cons (ev_var rfl) (ea_cons (ev_var rfl) ea_nil)) (sx_ledN ha8 hB hn0 hw)) fun v H9 e9 ⟨r, dx, hv, hr0, hr9⟩ => ?_
          subst hv
          have hnl : n ∉ ls := fun z => (hI.mem n).mp z hw
          refine q_when (b := false) ?_ (fun h => nomatch h) fun _ H10 e10 => ?_
          · refine et_is (et_or (et_test (ev_op (ev_isiO (b := false) (ev_var rfl) ev_c (fun H1 e1 => A.N.isTy (e1 _ _ hr9)) A.nl) (ev_op (ev_var rfl) (ev_var rfl) (rv_isL (sq_of (e9 _ _ h8)) rfl flat_ints)) (rv_ne rfl))) fun _ => et_not (et_B (ev_call (ea_cons (ev_var rfl) (ea_cons (ev_var rfl) (ea_cons (ev_var rfl) ea_nil))) (sv_dueN (e9 _ _ ha8) hB hr9)))) ?_
            rw [in_ints, decide_eq_false hnl, decide_eq_true rfl, decide_eq_true hw]
            rfl
          · have hr10 := e10 _ _ hr9
            refine s_if (b := false) (et_B (ev_isiO (ev_var rfl) ev_c (fun H1 e1 => A.N.isTy (e1 _ _ hr10)) A.nl)) (fun h => nomatch h) fun _ H11 e11 => ?_
            refine s_when (b := false) (et_is (et_not (et_B (ev_isiO (b := true) (ev_var rfl) ev_c (fun H1 e1 => A.N.isTy (e1 _ _ (e11 _ _ hr10))) A.nn))) rfl) (fun h => nomatch h) fun _ H12 e12 => ?_
            have e8C := ((e9.trans e10).trans e11).trans e12
            exact ⟨_, _, rfl, e68.trans e8C, (e8.trans e8C) _ _ h7⟩
        · refine q_asgX (ex_call back_Led (ea_cons (ev_var rfl) (ea_cons (ev_var rfl) ea_nil)) (sx_ledL ha8 hB hn0 hw)) fun v H9 e9 ⟨r, dx, l, ws, ps, hv, hr0, hl0, hr9, hl9, hp9, hL⟩ => ?_
          subst hv
          have hnl : n ∈ ls := (hI.mem n).mpr hw
          have pl' := leftB_len hL
          refine q_when (b := false) ?_ (fun h => nomatch h) fun _ H10 e10 => ?_
          · refine et_is (et_or (et_test (ev_op (ev_isiO (b := true) (ev_var rfl) ev_c (fun H1 e1 => A.L.isTy (e1 _ _ hr9)) A.ll) (ev_op (ev_var rfl) (ev_var rfl) (rv_isL (sq_of (e9 _ _ h8)) rfl flat_ints)) (rv_ne rfl))) fun _ => et_not (et_B (ev_call (ea_cons (ev_var rfl) (ea_cons (ev_var rfl) (ea_cons (ev_var rfl) ea_nil))) (sv_dueL (e9 _ _ ha8) hB hr9 hl9 hp9)))) ?_
            rw [in_ints, decide_eq_true hnl, decide_eq_true rfl, decide_eq_true hL]
            rfl
          · have hr10 := e10 _ _ hr9
            have hl10 := e10 _ _ hl9
            refine s_if (b := true) (et_B (ev_isiO (ev_var rfl) ev_c (fun H1 e1 => A.L.isTy (e1 _ _ hr10)) A.ll)) (fun _ H11 e11 => ?_) (fun h => nomatch h)
            refine s_appU (l := l) (e11 _ _ hl10) (ev_fld (ev_var rfl) (e11 _ _ hr10) A.L.cl A.nw (fW_look l)) (eu_tup (ea_cons ev_c (ea_cons ev_c ea_nil)) (by show 2 ≤ 100000; decide)) (by rw [hp9.len]; omega) fun pt H12 hpt e12 hpt1 => ?_
            have e8C := ((e9.trans e10).trans e11).trans e12
            exact ⟨_, _, rfl, e68.trans (Ex.mut e8C hl0), (e8.trans (Ex.mut e8C hl0)) _ _ h7⟩
      · subst hs
        have ha7 := e7 _ _ ha6
        have lpn : (0 : Int) < ((ns.map V.int).length : Int) := by omega
        obtain ⟨m, hm, hml⟩ : ∃ m : Nat, wh / 3 % ((ns.map V.int).length : Int) = (m : Int) ∧ m < ns.length := by
          have h1 := Int.emod_nonneg (wh / 3) (show ((ns.map V.int).length : Int) ≠ 0 by omega)
          have h2 := Int.emod_lt_of_pos (wh / 3) lpn
          exact ⟨(wh / 3 % ((ns.map V.int).length : Int)).toNat, by omega, by omega⟩
        refine q_asg (v := .int (m : Int)) (ev_is (ev_op (ev_op (ev_var rfl) ev_c (rv_I (divOk (by decide) (by decide)))) (ev_len (ev_var rfl) (sq_of ha7)) (rv_I lpn)) (congrArg V.int hm)) fun H8 e8 => ?_
        have ha8 := e8 _ _ ha7
        refine s_ret (ev_is (ev_op (ev_call (ea_cons (ev_var rfl) (ea_cons (ev_var rfl) ea_nil)) (sv_boardsBehind ha8 hB hml)) (ev_call (ea_cons (ev_var rfl) (ea_cons (ev_var rfl) ea_nil)) (sv_boardsBehind ha8 hB hml)) (rv_eq rfl)) (congrArg V.bl (decide_eq_true rfl))) fun H9 e9 => q H9 ((((e14.trans e46).trans e7).trans e8).trans e9)
theorem sv_right8 {a : Addr} {ns : List Int} {wh : Int} {H : Hp} (ha : H a = some (.lst (ns.map V.int))) (hB : Board ns) : SpV spRight8 [.ref a, .int wh] H (.bl true) := fun H1 e Q q E => ⟨a, ns, wh, rfl, e _ _ ha, hB, q⟩
end
end Lw

--@ uses: words8
namespace Lw
section
variable {P : Program} {w : World} {K : PySem.W.Frag} {mg : Str → Option Value} {base : Heap}
def spLawChanged : Sp := fun vs H Q _ => ∃ (a : Addr) (ns : List Int) (wh t : Int), vs = [.ref a, .int wh, .int t] ∧ H a = some (.lst (ns.map V.int)) ∧ Board ns ∧ ns.length ≤ 5 ∧ 0 ≤ t ∧ t ≤ 10 ∧
  ∀ (ns' : List Int) (H' : Hp), ExS [a] H H' → H' a = some (.lst (ns'.map V.int)) → Board ns' → ns'.length ≤ 5 → Q .non H'
theorem ok_law_changed {f : Addr} {fd : FuncData} (D : Df K mg "_law_changed" s_law_changed ["_law_board_here", "_law_whole", "_law_turn"] f fd) (T : Blt mg) : FnOk P w K mg base CX0 1 f fd ["_law_board_here", "_law_whole", "_law_turn"] spLawChanged := by
  have ND := sc_law_changed.nd
  refine D.F.ok sc_law_changed (fun vs H Q E h => ?_) (fun cdv Ar outer s H vs Q E hr h => ?_)
  · obtain ⟨a, ns, wh, t, rfl, _⟩ := h
    rfl
  · obtain ⟨a, ns, wh, t, rfl, ha, hB, h5, t0, t1, q⟩ := h
    refine ⟨_, (pss_cons /- 200 -/ (ps_set (i := 3) ND rfl (by first | exact .inl rfl | exact .inr rfl) (pe_op op_mod (pv 1) (pe_callB (kLen (K := K) rfl) (by rfl) T.len PySem.boot_len (pa_cons (pv 0) pa_nil))))
      (pss_cons /- 201 -/ (ps_asg (pe_op op_mod (pe_op op_add (pe_op op_add (pe_op op_mulZ (pe_ix (kIxL (K := K) rfl) (pv 0) (pv 3) (fun _ _ => rfl)) pe_int) pe_int) (pv 2)) pe_int) (pg_sub (pv 0) (pv 3) set_list))
      (pss_cons /- 202 -/ (ps_expr (pe_bm0 PySem.F.plainAttrs_list PySem.F.slot_list_reverse PySem.F.type_list_reverse mt_reverse (pv 0)))
      (pss_one /- 203 -/ (ps_if (PW.pt (pw_and (pt_cmpR op_lt (pe_callB (kLen (K := K) rfl) (by rfl) T.len PySem.boot_len (pa_cons (pv 0) pa_nil)) pe_int (nomark _)) (pw_and1 (pt_cmpR op_eq (pv 2) pe_int (nomark _)))))
        (pss_one /- 204 -/ (ps_expr (pe_bm PySem.F.plainAttrs_list PySem.F.slot_list_append PySem.F.type_list_append mt_append (pv 0) (pa_cons (pe_op op_mod (pe_op op_fdivW (pv 1) pe_int) pe_int) pa_nil))))
        (pss_one /- 205 -/ (ps_if (PW.pt (pw_and (pt_cmpR op_gt (pe_callB (kLen (K := K) rfl) (by rfl) T.len PySem.boot_len (pa_cons (pv 0) pa_nil)) pe_int (nomark _)) (pw_and1 (pt_cmpR op_eq (pv 2) pe_int (nomark _)))))
          (pss_one /- 206 -/ (ps_expr (pe_bm0 PySem.F.plainAttrs_list PySem.F.slot_list_pop PySem.F.type_list_pop mt_pop (pv 0))))
          pss_nil))))))), ?_⟩
    have hl : (ns.map V.int).length = ns.length := List.length_map _
    have b1 := hB.one
    have lp : (0 : Int) < ((ns.map V.int).length : Int) := by omega
    obtain ⟨k, hk, hkl⟩ : ∃ k : Nat, wh % ((ns.map V.int).length : Int) = (k : Int) ∧ k < ns.length := by
      have h1 := Int.emod_nonneg wh (show ((ns.map V.int).length : Int) ≠ 0 by omega)
      have h2 := Int.emod_lt_of_pos wh lp
      exact ⟨(wh % ((ns.map V.int).length : Int)).toNat, by omega, by omega⟩
    refine q_asg (v := .int (k : Int)) (ev_is (ev_op (ev_var rfl) (ev_len (ev_var rfl) (sq_of ha)) (rv_I lp)) (congrArg V.int hk)) fun H1 e1 => ?_
    have ha1 := e1 _ _ ha
    have hx := hB.num _ (getD_mem hkl)
    have mo : IntMulOk (ns.getD k 0) 3 := mulOk (a := 20) (b := 2) (by omega) (by decide) (by decide)
    refine q_setL' (v := .int ((ns.getD k 0 * 3 + 1 + t) % 1000001)) (j := k) ha1 (ev_op (ev_op (ev_op (ev_op (ev_op (ev_var rfl) (ev_var rfl) (rv_ixL (sq_of ha1) (at_int_i (i := (k : Int)) (by omega) (by omega)))) ev_c (rv_I mo)) ev_c rv_I0) (ev_var rfl) rv_I0) ev_c (rv_I (show (0 : Int) < 1000001 by decide))) (ev_var rfl) (ev_var rfl) (by omega) fun H2 e2 => ?_
    have z0 := Int.emod_nonneg (ns.getD k 0 * 3 + 1 + t) (show (1000001 : Int) ≠ 0 by decide)
    have z1 := Int.emod_lt_of_pos (ns.getD k 0 * 3 + 1 + t) (show (0 : Int) < 1000001 by decide)
    generalize (ns.getD k 0 * 3 + 1 + t) % 1000001 = z at *
    have ec : (ns.map V.int).set k (.int z) = (ns.set k z).map V.int := by rw [List.map_set]
    rw [ec]
    refine q_rev0 (l := a) upd_same (ev_var rfl) fun H3 e3 => ?_
    rw [← List.map_reverse]
    have hB2 : ∀ x ∈ (ns.set k z).reverse, 0 ≤ x ∧ x ≤ 1000000 := fun x hx => by
      rcases List.mem_or_eq_of_mem_set (List.mem_reverse.mp hx) with h | h
      · exact hB.num x h
      · omega
    have l2 : (ns.set k z).reverse.length = ns.length := by rw [List.length_reverse, List.length_set]
    generalize (ns.set k z).reverse = ms at *
    have hml : (ms.map V.int).length = ms.length := List.length_map _
    have s3 : ExS [a] H (upd H3 a (.lst (ms.map V.int))) := (((ExS.of (e1.trans e2)).put List.mem_cons_self).trans (ExS.of e3)).put List.mem_cons_self
    have h3 : (upd H3 a (.lst (ms.map V.int))) a = some (.lst (ms.map V.int)) := upd_same
    generalize upd H3 a (.lst (ms.map V.int)) = HA at *
    refine s_if (b := decide (((ms.map V.int).length : Int) < 5) && decide (V.int t = V.int 0)) (et_and (et_test (ev_op (ev_len (ev_var rfl) (sq_of h3)) ev_c rv_I0)) fun _ => et_test (ev_op (ev_var rfl) ev_c (rv_eq rfl))) (fun hb H4 e4 => ?_) (fun hb H4 e4 => ?_)
    · rw [Bool.and_eq_true] at hb
      have h4 := of_decide_eq_true hb.1
      have w0 := Int.emod_nonneg (wh / 5) (show (9 : Int) ≠ 0 by decide)
      have w1 := Int.emod_lt_of_pos (wh / 5) (show (0 : Int) < 9 by decide)
      refine s_app (l := a) (v := .int (wh / 5 % 9)) (e4 _ _ h3) (ev_var rfl) (ev_op (ev_op (ev_var rfl) ev_c (rv_I (divOk (by decide) (by decide)))) ev_c (rv_I (show (0 : Int) < 9 by decide))) (by omega) fun H5 e5 => ?_
      refine q (ms ++ [wh / 5 % 9]) _ ((s3.trans (ExS.of (e4.trans e5))).put List.mem_cons_self) (by rw [upd_same, List.map_append]; rfl) ⟨by rw [List.length_append, List.length_singleton]; omega, by rw [List.length_append, List.length_singleton]; omega, fun x hx => ?_⟩ (by rw [List.length_append, List.length_singleton]; omega)
      rcases List.mem_append.mp hx with h | h
      · exact hB2 x h
      · rw [List.mem_singleton.mp h]
        omega
    · have h4 := e4 _ _ h3
      refine s_when (b := decide (2 < ((ms.map V.int).length : Int)) && decide (V.int t = V.int 1)) (et_and (et_test (ev_op (ev_len (ev_var rfl) (sq_of h4)) ev_c rv_I0)) fun _ => et_test (ev_op (ev_var rfl) ev_c (rv_eq rfl))) (fun hb H5 e5 => ?_) (fun hb H5 e5 => ?_)
      · rw [Bool.and_eq_true] at hb
        have g4 := of_decide_eq_true hb.1
        refine s_pop0 (l := a) (e5 _ _ h4) (List.getElem?_eq_getElem (by omega)) (ev_var rfl) fun H6 e6 => ?_
        refine q ms.dropLast _ ((s3.trans (ExS.of ((e4.trans e5).trans e6))).put List.mem_cons_self) (by rw [upd_same, List.map_dropLast]) ⟨by rw [List.length_dropLast]; omega, by rw [List.length_dropLast]; omega, fun x hx => hB2 x ((List.dropLast_sublist _).mem hx)⟩ (by rw [List.length_dropLast]; omega)
      · exact q ms H5 (s3.trans (ExS.of (e4.trans e5))) (e5 _ _ h4) ⟨by omega, by omega, hB2⟩ (by omega)
end
end Lw

--@ uses: sp_answer
namespace Lw
section
variable {P : Program} {w : World} {K : PySem.W.Frag} {mg : Str → Option Value} {base : Heap}
theorem ok_Led_shows {f f1 CA CL CN fi : Addr} {fd fd1 : FuncData} (D : Dm K "shows" "Led.shows" s_Led_shows ["self", "board", "last"] f fd) (T : Blt mg) (A : Ans K mg CA CL CN fi)
    (o_left_behind : Ok P w K mg base CX0 3 "left_behind" s_left_behind ["board", "wipings"] spLeft f1 fd1) : FnOk P w K mg base CX0 4 f fd ["self", "board", "last"] (spLedShows CL) := by
  have ND := sc_Led_shows.nd
  refine D.F.ok sc_Led_shows (fun vs H Q E h => ?_) (fun cdv Ar outer s H vs Q E hr h => ?_)
  · obtain ⟨r, dx, l, a, x, ws, ps, ns, rfl, _⟩ := h
    rfl
  · obtain ⟨r, dx, l, a, x, ws, ps, ns, rfl, hr1, hl, hp, ha, hn, q⟩ := h
    refine ⟨_, (pss_one /- 56 -/ (ps_ret (pe_cmpR op_eq (pe_call o_left_behind.G (hr.mono (by first | decide | omega)) rfl o_left_behind.D.g o_left_behind.D.F.kp o_left_behind.D.b .nil pass0 (pa_cons (pv 1) (pa_cons (pe_fld (pv 0) rfl) pa_nil))) (pv 2) (nomark _)))), ?_⟩
    refine s_ret (ev_is (ev_op (ev_call (ea_cons (ev_var rfl) (ea_cons (ev_fld (ev_var rfl) hr1 A.L.cl A.nw (fW_look l)) ea_nil)) (sv_left ha hl hp hn)) (ev_var rfl) (rv_eq (optV_scal _ _))) (congrArg V.bl (optV_eq _ _))) fun H1 e1 => q H1 e1
theorem sv_ledShows {CL r dx l a : Addr} {x : Int} {ws : List V} {ps : List (Int × Int)} {ns : List Int} {H : Hp} (h1 : H r = some (.ins CL dx (fW l))) (h2 : H l = some (.lst ws)) (h3 : Prs H ws ps) (h4 : H a = some (.lst (ns.map V.int))) (h5 : ns.length ≤ 1000) : SpV (spLedShows CL) [.ref r, .ref a, .int x] H (.bl (decide (leftB ns ps = some x))) :=
  fun H1 e Q q E => ⟨r, dx, l, a, x, ws, ps, ns, rfl, e _ _ h1, e _ _ h2, h3.mono e, e _ _ h4, h5, q⟩
end
end Lw

--@ uses: sp_answer
namespace Lw
section
variable {P : Program} {w : World} {K : PySem.W.Frag} {mg : Str → Option Value} {base : Heap}
theorem ok_Led_init {f CA CL CN fi : Addr} {fd : FuncData} (D : Dm K "__init__" "Led.__init__" s_Led_init ["self", "wipings"] f fd) (T : Blt mg) (A : Ans K mg CA CL CN fi) : FnOk P w K mg base CX0 1 f fd ["self", "wipings"] (spLedInit CL) := by
  have ND := sc_Led_init.nd
  refine D.F.ok sc_Led_init (fun vs H Q E h => ?_) (fun cdv Ar outer s H vs Q E hr h => ?_)
  · obtain ⟨p, dx, l, ws, rfl, _⟩ := h
    rfl
  · obtain ⟨p, dx, l, ws, rfl, hp, hl, k⟩ := h
    refine ⟨_, (pss_one /- 53 -/ (ps_fld (pv 0) (pe_callTy (kList (K := K) rfl) (by rfl) T.list (by decide +kernel) (pa_cons (pv 1) pa_nil)) rfl)), ?_⟩
    refine el_list (ev_var rfl) (sq_of hl) H (Ex.refl _) _ fun l' H1 hl' e1 h1 => ?_
    have hp1 := e1 _ _ hp
    have lp : l' ≠ p := fun z => by rw [z, hp] at hl'; cases hl'
    refine ⟨_, rfl, p, CL, dx, [], rfl, hp1, A.L.cl, A.nw, (by show 0 < 1000; decide), ?_⟩
    exact k l' _ hl' (fun a o ha ho => by rw [upd_ne ha]; exact e1 _ _ ho) upd_same (by rw [upd_ne lp]; exact h1)
end
end Lw

--@ uses: wiped_of wipings_of math_cnt
namespace Lw
section
variable {P : Program} {w : World} {K : PySem.W.Frag} {mg : Str → Option Value} {base : Heap}
/-- what is known of x: by the boards' sorted numbers, whether it can be left -/
structure KnB (x : Int) (H : Hp) (d : Addr) (kvs : List (List L2.Key × V)) : Prop where
  at' : H d = some (.dT kvs)
  val : ∀ ns v, valV kvs (kI ns) = some v → v = .bl (decide (wys ns x ≠ 0))
/-- how many boards are put down, at most -/
def gB : Nat → Nat
  | 0 => 1
  | 1 => 1
  | n + 2 => 1 + (pairsOf (n + 2)).length * gB (n + 1)
theorem gB_six : ∀ n, n ≤ 6 → gB n ≤ 6466 := by
  intro n h
  rcases n with _ | _ | _ | _ | _ | _ | _ | n
  all_goals first | decide | (exfalso; omega)
theorem gB_two {n : Nat} (h : 2 ≤ n) : gB n = 1 + (pairsOf n).length * gB (n - 1) := by
  obtain ⟨m, rfl⟩ : ∃ m, n = m + 2 := ⟨n - 2, by omega⟩
  rfl
theorem gB_pos (n : Nat) : 1 ≤ gB n := by
  rcases n with _ | _ | n
  · decide
  · decide
  · show 1 ≤ 1 + _
    omega
def spCanBe (m : Nat) : Sp := fun vs H Q _ => ∃ (a d : Addr) (ns : List Int) (x : Int) (kvs : List (List L2.Key × V)), vs = [.ref a, .int x, .ref d] ∧ H a = some (.lst (ns.map V.int)) ∧ KnB x H d kvs ∧ 1 ≤ ns.length ∧ ns.length ≤ m ∧ m ≤ 6 ∧ kvs.length + gB ns.length ≤ 1000000 ∧
  ∀ kvs' H', ExS [d] H H' → KnB x H' d kvs' → kvs'.length ≤ kvs.length + gB ns.length → Q (.bl (decide (wys ns x ≠ 0))) H'
theorem KnB.put {x : Int} {H : Hp} {d : Addr} {kvs : List (List L2.Key × V)} {ns : List Int} (h : KnB x H d kvs) : KnB x (upd H d (.dT (putK kvs (kI (srt ns)) (.bl (decide (wys ns x ≠ 0)))))) d (putK kvs (kI (srt ns)) (.bl (decide (wys ns x ≠ 0)))) := by
  refine ⟨upd_same, fun ns' v hv => ?_⟩
  rw [valV_put] at hv
  by_cases hk : kI ns' = kI (srt ns)
  · rw [if_pos hk] at hv
    rw [kI_inj hk, wys_perm (srt_perm ns)]
    exact (Option.some.inj hv).symm
  · rw [if_neg hk] at hv
    exact h.val ns' v hv
theorem KnB.ex {x : Int} {H H' : Hp} {d : Addr} {kvs : List (List L2.Key × V)} (h : KnB x H d kvs) (e : Ex H H') : KnB x H' d kvs := ⟨e _ _ h.at', h.val⟩
/-- the wipings ahead, the first i of them -/
theorem any_step {ns : List Int} (h : 2 ≤ ns.length) (x : Int) : (((pairsOf ns.length).map fun p => decide (wys (wp ns p.1 p.2) x ≠ 0)).any id) = decide (wys ns x ≠ 0) := by
  rw [Bool.eq_iff_iff, List.any_eq_true, decide_eq_true_eq]
  constructor
  · rintro ⟨b, hb, h1⟩
    obtain ⟨p, hp, rfl⟩ := List.mem_map.mp hb
    have h2 : wys (wp ns p.1 p.2) x ≠ 0 := of_decide_eq_true h1
    rw [wys_step h]
    have := le_sum (List.mem_map.mpr ⟨p, hp, rfl⟩ : wys (wp ns p.1 p.2) x ∈ (pairsOf ns.length).map fun p => wys (wp ns p.1 p.2) x)
    omega
  · intro h1
    rw [wys_step h] at h1
    obtain ⟨y, hy, h2⟩ := sum_ne h1
    obtain ⟨p, hp, rfl⟩ := List.mem_map.mp hy
    exact ⟨_, List.mem_map.mpr ⟨p, hp, rfl⟩, decide_eq_true h2⟩
theorem step_can_be {m : Nat} {f f1 f2 : Addr} {fd fd1 fd2 : FuncData} (D : Df K mg "can_be" s_can_be ["board", "last", "known"] f fd) (T : Blt mg)
    (o_wiped_of : Ok P w K mg base CX0 1 "wiped_of" s_wiped_of ["board", "wiping"] spWipedOf f1 fd1)
    (o_wipings_of : Ok P w K mg base CX0 1 "wipings_of" s_wipings_of ["many"] spWipingsOf f2 fd2)
    (G : FnOk P w K mg base CX0 (m + 1) f fd ["board", "last", "known"] (spCanBe m)) : FnOk P w K mg base CX0 (m + 1 + 1) f fd ["board", "last", "known"] (spCanBe (m + 1)) := by
  have ND := sc_can_be.nd
  have o_can_be : Ok P w K mg base CX0 (m + 1) "can_be" s_can_be ["board", "last", "known"] (spCanBe m) f fd := ⟨D, G⟩
  refine D.F.ok sc_can_be (fun vs H Q E h => ?_) (fun cdv A outer s H vs Q E hr h => ?_)
  · obtain ⟨a, d, ns, x, kvs, rfl, _⟩ := h
    rfl
  · obtain ⟨a, d, ns, x, kvs, rfl, ha, hK, l1, l2, m6, hz, q⟩ := h
    have hu := hu_of hr
    refine ⟨_, (pss_cons /- 58 -/ (ps_set (i := 3) ND rfl (by first | exact .inl rfl | exact .inr rfl) (pe_callTy (kTup' (K := K) rfl) (by rfl) T.tuple (by decide +kernel) (pa_cons (pe_callB (kSortI (K := K) rfl) (by rfl) T.sorted (by decide +kernel) (pa_cons (pv 0) pa_nil)) pa_nil)))
      (pss_cons /- 59 -/ (ps_if (pt_cmp (pc_dnotin hu (pv 3) (pv 2)))
        (pss_one /- 60 -/ (ps_if (pt_cmpR op_eq (pe_callB (kLen (K := K) rfl) (by rfl) T.len PySem.boot_len (pa_cons (pv 0) pa_nil)) pe_int (nomark _))
          (pss_one /- 61 -/ (ps_dput hu (pv 2) (pv 3) (pe_cmpR op_eq (pe_ix (kIxL (K := K) rfl) (pv 0) pe_int (fun _ _ => rfl)) (pv 1) (nomark _)) rfl))
          (pss_one /- 63 -/ (ps_dput hu (pv 2) (pv 3) (pe_callB (kAny (K := K) rfl rfl) (by rfl) T.any (by decide +kernel) (pa_cons (pe_lc (own := [("wiping", 4)]) (by rfl) ND (pi_list (pe_call o_wipings_of.G (hr.mono (by first | decide | omega)) rfl o_wipings_of.D.g o_wipings_of.D.F.kp o_wipings_of.D.b .nil pass0 (pa_cons (pe_callB (kLen (K := K) rfl) (by rfl) T.len PySem.boot_len (pa_cons (pv 0) pa_nil)) pa_nil))) (blkOk_by (own := [("wiping", 4)]) (N := ["board", "last", "known", "key", "wiping"]) (sc := defScope s_can_be) (by decide +kernel)) (fun _ _ _ _ _ => (pg_name (i := 4) ND rfl (.inl rfl))) (fun _ _ _ _ _ => pts_nil) (fun _ _ _ _ _ => (pe_call o_can_be.G (hr.mono (by first | decide | omega)) rfl o_can_be.D.g o_can_be.D.F.kp o_can_be.D.b .nil pass0 (pa_cons (pe_call o_wiped_of.G (hr.mono (by first | decide | omega)) rfl o_wiped_of.D.g o_wiped_of.D.F.kp o_wiped_of.D.b .nil pass0 (pa_cons (pv 0) (pa_cons (pv 4) pa_nil))) (pa_cons (pv 1) (pa_cons (pv 2) pa_nil)))))) pa_nil)) rfl))))
        pss_nil)
      (pss_one /- 64 -/ (ps_ret (pe_dget hu (pv 2) (pv 3) (fun _ _ => rfl)))))), ?_⟩
    have hl : (ns.map V.int).length = ns.length := List.length_map _
    refine q_asgU (eu_tupN (el_sortI (ev_var rfl) (sq_of ha))) fun kt H1 hkt e1 hk1 => ?_
    have K1 := hK.ex e1
    have gp := gB_pos ns.length
    -- what is told behind
    have tell : ∀ kvs' H', ExS [d] H1 H' → KnB x H' d kvs' → H' kt = some (.tup ((srt ns).map V.int)) → kvs'.length ≤ kvs.length + gB ns.length → valV kvs' (kI (srt ns)) = some (.bl (decide (wys ns x ≠ 0))) → tRet (tDGet (tVar 2) (tVar 3)) { nx := fun _ H => Q .non H, rt := Q, bk := fun _ _ => False, ct := fun _ _ => False } [some (.ref a), some (.int x), some (.ref d), some (.ref kt), none] H' := fun kvs' H' s K' hk' hl' hv => by
      refine s_ret (ev_dgetT (ev_var rfl) (ev_var rfl) hk' (.inl K'.at') hv) fun H3 e3 => ?_
      exact q kvs' H3 (((ExS.of e1).trans s).trans (ExS.of e3)) (K'.ex e3) hl'
    refine q_when (b := !(valV kvs (kI (srt ns))).isSome) (et_ninT (ev_var rfl) (ev_var rfl) hk1 (.inl K1.at')) (fun hb2 H2 e2 => ?_) (fun hb2 H2 e2 => ?_)
    · have K2 := K1.ex e2
      have ha2 := e2 _ _ (e1 _ _ ha)
      have hk2 := e2 _ _ hk1
      have ktd : kt ≠ d := ne_of hk2 K2.at' (fun z => nomatch z)
      refine s_if (b := decide (V.int (((ns.map V.int).length : Nat) : Int) = V.int 1)) (et_test (ev_op (ev_len (ev_var rfl) (sq_of ha2)) ev_c (rv_eq rfl))) (fun hb1 H3 e3 => ?_) (fun hb1 H3 e3 => ?_)
      · have h1 : ns.length = 1 := by
          have := V.int.inj (of_decide_eq_true hb1)
          omega
        obtain ⟨y, rfl⟩ := List.length_eq_one_iff.mp h1
        have K3 := K2.ex e3
        have hk3 := e3 _ _ hk2
        have ew : V.bl (decide (V.int y = V.int x)) = V.bl (decide (wys [y] x ≠ 0)) := by
          have e : wys [y] x = if [y] = [x] then 1 else 0 := rfl
          rw [e]
          by_cases hxy : y = x
          · subst hxy
            rw [if_pos rfl, decide_eq_true rfl]
            rfl
          · rw [if_neg (fun z => hxy (List.cons.inj z).1), decide_eq_false (fun z => hxy (V.int.inj z))]
            rfl
        refine s_dputT (v := .bl (decide (wys [y] x ≠ 0))) (ev_is (ev_op (ev_op (ev_var rfl) ev_c (rv_ixL (sq_of (e3 _ _ ha2)) (at_int_i (ns := [y]) (i := 0) (by decide) (show (0 : Int) < 1 by decide)))) (ev_var rfl) (rv_eq rfl)) ew) (ev_var rfl) (ev_var rfl) hk3 K3.at' (by omega) fun H4 e4 => ?_
        have K4 := (K3.ex e4).put (ns := [y])
        refine tell _ _ ?_ K4 ?_ ?_ ?_
        · exact (ExS.of ((e2.trans e3).trans e4)).put List.mem_cons_self
        · rw [upd_ne ktd]
          exact e4 _ _ hk3
        · have := length_putK kvs (kI (srt [y])) (.bl (decide (wys [y] x ≠ 0)))
          omega
        · rw [valV_put, if_pos rfl]
      · have hL2 : 2 ≤ ns.length := by
          have : ¬ ((ns.length : Int) = 1) := fun z => of_decide_eq_false hb1 (congrArg V.int (by rw [hl]; exact z))
          omega
        have g2 := gB_two hL2
        have K3 := K2.ex e3
        have ha3 := e3 _ _ ha2
        have hk3 := e3 _ _ hk2
        have ad : a ≠ d := ne_of ha3 K3.at' (fun z => nomatch z)
        have hlen : V.int (((ns.map V.int).length : Nat) : Int) = V.int (ns.length : Int) := by rw [hl]
        refine s_dputTS (R := fun v H4 => ∃ b, v = .bl b ∧ b = decide (wys ns x ≠ 0) ∧ ExS [d] H3 H4 ∧ ∃ kvs', KnB x H4 d kvs' ∧ kvs'.length + 1 ≤ kvs.length + gB ns.length) (b := kt) (d := d) (ns := srt ns) ?_ (fun v H4 ⟨b, ev, eb, s4, kvs', K4, l4⟩ => ?_)
        · refine fun Q' q' => xs_any (S := fun b H4 => b = decide (wys ns x ≠ 0) ∧ ExS [d] H3 H4 ∧ ∃ kvs', KnB x H4 d kvs' ∧ kvs'.length + 1 ≤ kvs.length + gB ns.length) (fun Q'' q'' => ?_) Q' q'
          refine xs_lcP (K := K) (ps := pairsOf ns.length) (j := 4) (d := d) (kvs0 := kvs) (ex_call back_P (ea_cons (ev_is (ev_len (ev_var rfl) (sq_of ha3)) hlen) ea_nil) (sx_wipingsOf (by omega))) K3.at' ?_ (fun x => rfl)
            (fun i acc H' => acc = (((pairsOf ns.length).take i).map fun p => V.bl (decide (wys (wp ns p.1 p.2) x ≠ 0))) ∧ ∃ kvs', KnB x H' d kvs' ∧ kvs'.length ≤ kvs.length + i * gB (ns.length - 1)) (fun H4 e4 => ⟨rfl, kvs, K3.ex e4, by omega⟩) (fun i acc H' Dl o hDl ⟨h1, kvs', h2, h3⟩ => ⟨h1, kvs', ⟨?_, h2.val⟩, h3⟩) (fun i pr t acc H' hpr s4 ht ⟨h1, kvs', h2, h3⟩ => ?_) Q'' (fun v H4 ⟨p, acc, ev, hp0, s4, hp, h1, kvs', h2, h3⟩ => q'' v H4 ⟨p, ((pairsOf ns.length).map fun p => decide (wys (wp ns p.1 p.2) x ≠ 0)), ev, ?_, any_step hL2 x, s4, kvs', h2, ?_⟩)
          · have : (pairsOf ns.length).length ≤ gB ns.length := by
              have h3 := gB_pos (ns.length - 1)
              have := Nat.le_mul_of_pos_right (pairsOf ns.length).length h3
              omega
            omega
          · rw [upd_ne (fun z => by rw [← z, K3.at'] at hDl; cases hDl)]
            exact h2.at'
          · obtain ⟨p0, p1, p2⟩ := pairs_mem (List.mem_of_getElem? hpr)
            have hwl := wp_len p0 p1 p2
            have hi := (List.getElem?_eq_some_iff.mp hpr).1
            have ha4 := s4 a _ (by simp only [List.mem_singleton]; exact ad) ha3
            have gm : (i + 1) * gB (ns.length - 1) ≤ (pairsOf ns.length).length * gB (ns.length - 1) := Nat.mul_le_mul_right _ (by omega)
            rw [Nat.succ_mul] at gm
            refine xs_call (RA := fun vs H5 => ∃ pw, vs = [.ref pw, .int x, .ref d] ∧ Ex H' H5 ∧ H5 pw = some (.lst ((wp ns pr.1 pr.2).map V.int))) (fun H5 e5 Q5 q5 => eax_l (el_call (ea_cons (ev_var rfl) (ea_cons (ev_var rfl) ea_nil)) (sl_wipedOf ha4 ht p0 p1 p2 (by omega))) (fun pw H6 e6 hpw => eax_v (ev_var rfl) (eax_v (ev_var rfl) (eax_nil fun H7 e7 => ⟨pw, rfl, e6.trans e7, e7 _ _ hpw⟩))) H5 e5 Q5 q5) fun vs H5 e5 ⟨pw, hvs, e5', hpw⟩ Q5 q5 => ?_
            subst hvs
            have hwm : (wp ns pr.1 pr.2).length = ns.length - 1 := by omega
            refine ⟨pw, d, wp ns pr.1 pr.2, x, kvs', rfl, hpw, h2.ex e5', by omega, by omega, by omega, ?_, fun kvs'' H6 s6 K6 l6 => q5 _ H6 ⟨(ExS.of e5').trans s6, ?_, kvs'', K6, ?_⟩⟩
            · rw [hwm]
              omega
            · rw [List.take_add_one, hpr, h1, List.map_append]
              rfl
            · rw [hwm] at l6
              rw [Nat.succ_mul]
              omega
          · rw [List.take_length] at h1
            rw [List.map_map]
            rw [h1] at hp
            exact hp
          · omega
        · subst ev eb
          refine ⟨kvs', ev_var rfl, ev_var rfl, s4 kt _ (by simp only [List.mem_singleton]; exact ktd) hk3, K4.at', by omega, fun H5 e5 => ?_⟩
          refine tell _ _ ?_ (K4.ex e5).put ?_ ?_ ?_
          · exact (((ExS.of (e2.trans e3)).trans s4).trans (ExS.of e5)).put List.mem_cons_self
          · rw [upd_ne ktd]
            exact e5 _ _ (s4 kt _ (by simp only [List.mem_singleton]; exact ktd) hk3)
          · have := length_putK kvs' (kI (srt ns)) (.bl (decide (wys ns x ≠ 0)))
            omega
          · rw [valV_put, if_pos rfl]
    · obtain ⟨v, hv⟩ : ∃ v, valV kvs (kI (srt ns)) = some v := by
        cases hv : valV kvs (kI (srt ns)) with
        | none => rw [hv] at hb2; cases hb2
        | some v => exact ⟨v, rfl⟩
      have e := K1.val _ _ hv
      rw [wys_perm (srt_perm ns)] at e
      rw [e] at hv
      exact tell kvs H2 (ExS.of e2) (K1.ex e2) (e2 _ _ hk1) (by omega) hv
theorem ok_can_be {f f1 f2 : Addr} {fd fd1 fd2 : FuncData} (D : Df K mg "can_be" s_can_be ["board", "last", "known"] f fd) (T : Blt mg)
    (o_wiped_of : Ok P w K mg base CX0 1 "wiped_of" s_wiped_of ["board", "wiping"] spWipedOf f1 fd1)
    (o_wipings_of : Ok P w K mg base CX0 1 "wipings_of" s_wipings_of ["many"] spWipingsOf f2 fd2) : FnOk P w K mg base CX0 7 f fd ["board", "last", "known"] (spCanBe 6) := by
  have all : ∀ m, FnOk P w K mg base CX0 (m + 1) f fd ["board", "last", "known"] (spCanBe m) := by
    intro m
    induction m with
    | zero =>
      have no : ∀ vs H Q E, ¬ spCanBe 0 vs H Q E := fun vs H Q E h => by
        obtain ⟨a, d, ns, x, kvs, _, _, _, h1, h2, _⟩ := h
        omega
      exact ⟨fun vs H Q E h => absurd h (no vs H Q E), fun A outer s H args us vs Q E _ _ _ _ h => absurd h (no vs H Q E)⟩
    | succ m ih => exact step_can_be D T o_wiped_of o_wipings_of ih
  exact all 6
/-- with nothing known -/
theorem ev_canBeNew {ta tb : TE} {σ : L2.St} {H : Hp} {E : XK} {a : Addr} {ns : List Int} {x : Int} (ha : Ev ta σ H (.ref a)) (hb : Ev tb σ H (.int x)) (hA : H a = some (.lst (ns.map V.int))) (l1 : 1 ≤ ns.length) (l6 : ns.length ≤ 6) : Ev (tCall (spCanBe 6) [] E (tCons ta (tCons tb (tCons tDNewT tNil)))) σ H (.bl (decide (wys ns x ≠ 0))) := fun H1 e Q q =>
  ha H1 e _ fun H2 e2 => hb H2 (e.trans e2) _ fun H3 e3 d hd => by
    have h := gB_six ns.length l6
    refine ⟨a, d, ns, x, [], rfl, Ex.new hd _ _ (((e.trans e2).trans e3) _ _ hA), ⟨upd_same, fun ns v hv => by cases hv⟩, l1, l6, Nat.le_refl _, by rw [List.length_nil]; omega, fun kvs' H' s K hl => ?_⟩
    refine q H' (ExS.ex ((e2.trans e3).trans (Ex.new hd)) s fun m hm => ?_)
    rw [List.mem_singleton.mp hm]
    exact fresh_back (e2.trans e3) hd
end
end Lw

--@ uses: sp_answer can_be
namespace Lw
section
variable {P : Program} {w : World} {K : PySem.W.Frag} {mg : Str → Option Value} {base : Heap}
theorem ok_Never_shows {f f1 : Addr} {fd fd1 : FuncData} (D : Dm K "shows" "Never.shows" s_Never_shows ["self", "board", "last"] f fd) (T : Blt mg)
    (o_can_be : Ok P w K mg base CX0 7 "can_be" s_can_be ["board", "last", "known"] (spCanBe 6) f1 fd1) : FnOk P w K mg base CX0 8 f fd ["self", "board", "last"] spNeverShows := by
  have ND := sc_Never_shows.nd
  refine D.F.ok sc_Never_shows (fun vs H Q E h => ?_) (fun cdv Ar outer s H vs Q E hr h => ?_)
  · obtain ⟨r, a, x, ns, rfl, _⟩ := h
    rfl
  · obtain ⟨r, a, x, ns, rfl, ha, l1, l6, q⟩ := h
    refine ⟨_, (pss_one /- 68 -/ (ps_ret (pe_not (pe_call o_can_be.G (hr.mono (by first | decide | omega)) rfl o_can_be.D.g o_can_be.D.F.kp o_can_be.D.b .nil pass0 (pa_cons (pv 1) (pa_cons (pv 2) (pa_cons pe_dnewT pa_nil))))))), ?_⟩
    refine s_ret (ev_is (ev_notV (ev_canBeNew (ev_var rfl) (ev_var rfl) ha l1 l6)) ?_) fun H1 e1 => q H1 e1
    by_cases h : wys ns x = 0
    · rw [decide_eq_true h, decide_eq_false (fun z => z h)]
      rfl
    · rw [decide_eq_false h, decide_eq_true h]
      rfl
theorem sv_neverShows {r a : Addr} {x : Int} {ns : List Int} {H : Hp} (h4 : H a = some (.lst (ns.map V.int))) (l1 : 1 ≤ ns.length) (l6 : ns.length ≤ 6) : SpV spNeverShows [.ref r, .ref a, .int x] H (.bl (decide (wys ns x = 0))) :=
  fun H1 e Q q E => ⟨r, a, x, ns, rfl, e _ _ h4, l1, l6, q⟩
end
end Lw

--@ uses: sp_law right law_changed Led_shows Led_init Never_shows
namespace Lw
section
variable {P : Program} {w : World} {K : PySem.W.Frag} {mg : Str → Option Value} {base : Heap}
/-- a board and a number -/
def TPx (H : Hp) (v : V) : Prop := ∃ (t p : Addr) (xs : List Int) (n : Int), v = .ref t ∧ H t = some (.tup [.ref p, .int n]) ∧ H p = some (.lst (xs.map V.int)) ∧ Board xs
theorem TPx.mono {H H' : Hp} {v : V} (h : TPx H v) (e : Ex H H') : TPx H' v := by
  obtain ⟨t, p, xs, n, h1, h2, h3, h4⟩ := h
  exact ⟨t, p, xs, n, h1, e _ _ h2, e _ _ h3, h4⟩
section
variable {σ : L2.St} {H : Hp} {te ta tb tl : TE} {tr : TA} {E : XK}
def EvTP (n : Nat) (tr : TA) (σ : L2.St) (H : Hp) : Prop := EvAX tr σ H (fun vs H2 => (∀ v ∈ vs, TPx H2 v) ∧ vs.length = n)
theorem tp_nil : EvTP 0 tNil σ H := eax_nil fun H1 _ => ⟨fun v h => (by cases h), rfl⟩
theorem tp_cons {n : Nat} (h : EvX te σ H (fun _ v H2 => TPx H2 v)) (hr : EvTP n tr σ H) : EvTP (n + 1) (tCons te tr) σ H := fun H1 e Q q =>
  h H1 e _ fun v H2 e2 g => hr H2 (e.trans e2) _ fun vs H3 e3 ⟨g3, l3⟩ => q _ H3 (e2.trans e3) ⟨fun u hu => by
    rcases List.mem_cons.mp hu with z | hu
    · rw [z]; exact TPx.mono g e3
    · exact g3 u hu, by rw [List.length_cons, l3]⟩
theorem ex_tps {n : Nat} (h : EvTP n tr σ H) (hn : n ≤ 100000) : EvX (tLst tr) σ H (fun H1 v H2 => ∃ p vs, v = .ref p ∧ H1 p = none ∧ H2 p = some (.lst vs) ∧ ∀ v ∈ vs, TPx H2 v) := fun H1 e Q q =>
  h H1 e _ fun vs H2 e2 ⟨g, l⟩ => ⟨sz_of (by omega), fun p hp => q _ _ (e2.trans (Ex.new hp)) ⟨p, vs, rfl, fresh_back e2 hp, upd_same, fun v hv => (g v hv).mono (Ex.new hp)⟩⟩
theorem tp_v {p : Addr} {xs : List Int} {n : Int} (ha : Ev ta σ H (.ref p)) (hb : Ev tb σ H (.int n)) (hp : H p = some (.lst (xs.map V.int))) (hB : Board xs) : EvX (tTup (tCons ta (tCons tb tNil))) σ H (fun _ v H2 => TPx H2 v) := fun H1 e Q q =>
  eu_tup (ea_cons ha (ea_cons hb ea_nil)) (by show 2 ≤ 100000; decide) H1 e Q fun t H2 ht e2 h2 => q _ H2 e2 ⟨t, p, xs, n, rfl, h2, (e.trans e2) _ _ hp, hB⟩
theorem tp_l {xs : List Int} {n : Int} (ha : EvL ta σ H (xs.map V.int)) (hb : Ev tb σ H (.int n)) (hB : Board xs) : EvX (tTup (tCons ta (tCons tb tNil))) σ H (fun _ v H2 => TPx H2 v) := fun H1 e Q q =>
  ha H1 e _ fun p H2 hp e2 h2 => hb H2 (e.trans e2) _ fun H3 e3 => ⟨sz_of (show 2 ≤ 100000 by decide), fun t ht => q _ _ ((e2.trans e3).trans (Ex.new ht)) ⟨t, p, xs, n, rfl, upd_same, (e3.trans (Ex.new ht)) _ _ h2, hB⟩⟩
theorem s_forTP {D : Ends} {tu : TS} {i j n : Nat} (h : EvTP n tr σ H) (hn : n ≤ 100000) (k : ∀ p vs H1, Ex H H1 → H1 p = some (.lst vs) → ∃ Pv : L2.St → Hp → Prop, Pv σ H1 ∧ (∀ σ' H', Pv σ' H' → Ex H1 H') ∧
    (∀ (pq : Addr) (xs : List Int) (nn : Int) σ' H', H' pq = some (.lst (xs.map V.int)) → Board xs → Pv σ' H' → tu { D with nx := Pv, ct := Pv, bk := D.nx } ((σ'.set i (some (.ref pq))).set j (some (.int nn))) H') ∧ ∀ σ' H', Pv σ' H' → D.nx σ' H') :
    tFor (iList K (tLst tr)) (gTup K 2 (gCons (gName i) (gCons (gName j) gNil))) tu D σ H := by
  have h2 := ex_tps h hn
  generalize tLst tr = tl at h2 ⊢
  exact h2 H (Ex.refl _) _ fun v H1 e1 ⟨pt, vs, hv, _, hpt, hG⟩ => by
    subst hv
    obtain ⟨Pv, k1, k2, k3, k4⟩ := k pt vs H1 e1 hpt
    refine ⟨pt, rfl, ⟨vs, sq_of hpt⟩, for_list (K := K) (a := pt) (xs := vs) (fun _ σ' H' => Pv σ' H') k1 (fun m σ' H' _ hp => sq_of (k2 σ' H' hp _ _ hpt)) (fun m x σ' H' hx hp => ?_) (fun σ' H' hp => k4 σ' H' hp)⟩
    obtain ⟨t, pq, xs, nn, rfl, ht, hpq, hBx⟩ := (hG x (List.mem_of_getElem? hx)).mono (k2 σ' H' hp)
    exact g_two (H1 := H') ht (k3 pq xs nn σ' H' hpq hBx hp)
theorem eax_A {vs : List V} (h : EvA tr σ H vs) : EvAX tr σ H (fun ws H1 => ws = vs ∧ Ex H H1) := fun H1 e Q q => h H1 e _ fun H2 e2 => q _ H2 e2 ⟨rfl, e.trans e2⟩
end
set_option maxHeartbeats 600000 in
theorem ok_law {f f1 f2 f3 f4 f5 f6 g1 g2 CA CL CN fi : Addr} {fd fd1 fd2 fd3 fd4 fd5 fd6 gd1 gd2 : FuncData} (D : Df K mg "law" s_law ["_law_script"] f fd) (T : Blt mg) (A : Ans K mg CA CL CN fi)
    (o_law_board : Ok P w K mg base CX0 2 "_law_board" s_law_board ["_law_script", "_law_by", "_law_most"] (spLawBoard K) f1 fd1)
    (o_law_right : Ok P w K mg base CX0 9 "_law_right" s_law_right ["_law_board_here", "_law_whole"] spRight8 f2 fd2)
    (o_lasts : Ok P w K mg base CX0 8 "lasts" s_lasts ["board"] spLasts f3 fd3)
    (o_led : Ok P w K mg base CX0 8 "led" s_led ["board", "last"] (spLed CL CN) f4 fd4)
    (o_law_changed : Ok P w K mg base CX0 1 "_law_changed" s_law_changed ["_law_board_here", "_law_whole", "_law_turn"] spLawChanged f5 fd5)
    (o_law_due : Ok P w K mg base CX0 3 "_law_due" s_law_due ["_law_board_here", "_law_last", "_law_answer"] (spLawDue CL CN) f6 fd6)
    (m_Led_shows : Me P w K mg base CX0 4 CL "shows" "Led.shows" s_Led_shows ["self", "board", "last"] (spLedShows CL) g1 gd1)
    (m_Never_shows : Me P w K mg base CX0 8 CN "shows" "Never.shows" s_Never_shows ["self", "board", "last"] spNeverShows g2 gd2) : FnOk P w K mg base CX0 10 f fd ["_law_script"] (spLaw K) := by
  have ND := sc_law.nd
  refine D.F.ok sc_law (fun vs H Q E h => ?_) (fun cdv Ar outer s H vs Q E hr h => ?_)
  · obtain ⟨a, ns, rfl, _⟩ := h
    rfl
  · obtain ⟨a, ns, rfl, S, q⟩ := h
    have hu := hu_of hr
    refine ⟨_, (pss_cons /- 208 -/ (ps_set (i := 1) ND rfl (by first | exact .inl rfl | exact .inr rfl) (pe_callB kAbs (by rfl) T.abs (by decide +kernel) (pa_cons (pe_callB (kSum (K := K) rfl rfl) (by rfl) T.sum (by decide +kernel) (pa_cons (pe_slice (kSl (K := K) rfl) (pv 0) po_none (po_some pe_int)) pa_nil)) pa_nil)))
      (pss_cons /- 209 -/ (ps_for PassesOwn.never rfl (pi_list (pe_lst (pa_cons pe_int (pa_cons pe_int pa_nil)))) (pg_name (i := 2) ND rfl (by first | exact .inl rfl | exact .inr rfl))
        (pss_cons /- 210 -/ (ps_par (i := 3) (j := 4) (by rfl) ND rfl rfl (by decide) rfl rfl (pa_cons (pe_call o_law_board.G (hr.mono (by first | decide | omega)) rfl o_law_board.D.g o_law_board.D.F.kp o_law_board.D.b .nil pass0 (pa_cons (pv 0) (pa_cons (pv 2) (pa_cons pe_int pa_nil)))) (pa_cons (pe_call o_law_board.G (hr.mono (by first | decide | omega)) rfl o_law_board.D.g o_law_board.D.F.kp o_law_board.D.b .nil pass0 (pa_cons (pv 0) (pa_cons (pe_op op_add (pv 2) pe_int) (pa_cons pe_int pa_nil)))) pa_nil)) (by rfl))
        (pss_one /- 211 -/ (ps_for PassesOwn.never rfl (pi_range1 (by rfl) T.range (pa_cons pe_int pa_nil)) (pg_name (i := 5) ND rfl (by first | exact .inl rfl | exact .inr rfl))
          (pss_cons /- 212 -/ (ps_if (pt_not (pt_val (pe_call o_law_right.G (hr.mono (by first | decide | omega)) rfl o_law_right.D.g o_law_right.D.F.kp o_law_right.D.b .nil pass0 (pa_cons (pv 3) (pa_cons (pe_op op_add (pv 1) (pv 5)) pa_nil)))))
            (pss_one /- 213 -/ (ps_ret pe_bl))
            pss_nil)
          (pss_cons /- 214 -/ (ps_set (i := 6) ND rfl (by first | exact .inl rfl | exact .inr rfl) (pe_ix (kIxL (K := K) rfl) (pe_call o_lasts.G (hr.mono (by first | decide | omega)) rfl o_lasts.D.g o_lasts.D.F.kp o_lasts.D.b .nil pass0 (pa_cons (pv 3) pa_nil)) pe_int (fun _ _ => rfl)))
          (pss_cons /- 215 -/ (ps_par (i := 7) (j := 8) (by rfl) ND rfl rfl (by decide) rfl rfl (pa_cons (pe_call o_led.G (hr.mono (by first | decide | omega)) rfl o_led.D.g o_led.D.F.kp o_led.D.b .nil pass0 (pa_cons (pv 3) (pa_cons (pv 6) pa_nil))) (pa_cons (pe_call o_led.G (hr.mono (by first | decide | omega)) rfl o_led.D.g o_led.D.F.kp o_led.D.b .nil pass0 (pa_cons (pv 3) (pa_cons (pe_op op_add (pe_ix (kIxL (K := K) rfl) (pe_call o_lasts.G (hr.mono (by first | decide | omega)) rfl o_lasts.D.g o_lasts.D.F.kp o_lasts.D.b .nil pass0 (pa_cons (pv 3) pa_nil)) (pe_un un_neg pe_int) (fun _ _ => rfl)) pe_int) pa_nil))) pa_nil)) (by rfl))
          (pss_cons /- 216 -/ (ps_expr (pe_call o_law_changed.G (hr.mono (by first | decide | omega)) rfl o_law_changed.D.g o_law_changed.D.F.kp o_law_changed.D.b .nil pass0 (pa_cons (pv 3) (pa_cons (pe_op op_fdivW (pv 1) pe_int) (pa_cons (pv 5) pa_nil)))))
          (pss_one /- 217 -/ (ps_for PassesOwn.never rfl (pi_list (pe_lst (pa_cons (pe_tup (pa_cons (pv 3) (pa_cons (pv 6) pa_nil))) (pa_cons (pe_tup (pa_cons (pv 3) (pa_cons (pe_ix (kIxL (K := K) rfl) (pe_call o_lasts.G (hr.mono (by first | decide | omega)) rfl o_lasts.D.g o_lasts.D.F.kp o_lasts.D.b .nil pass0 (pa_cons (pv 3) pa_nil)) (pe_un un_neg pe_int) (fun _ _ => rfl)) pa_nil))) (pa_cons (pe_tup (pa_cons (pv 4) (pa_cons (pe_ix (kIxL (K := K) rfl) (pe_call o_lasts.G (hr.mono (by first | decide | omega)) rfl o_lasts.D.g o_lasts.D.F.kp o_lasts.D.b .nil pass0 (pa_cons (pv 4) pa_nil)) pe_int (fun _ _ => rfl)) pa_nil))) (pa_cons (pe_tup (pa_cons (pe_lst (pa_cons (pv 6) pa_nil)) (pa_cons (pv 6) pa_nil))) (pa_cons (pe_tup (pa_cons (pe_lst (pa_cons pe_int pa_nil)) (pa_cons pe_int pa_nil))) pa_nil))))))) (kgTup (K := K) (n := 2) rfl rfl (pgs_cons (pg_name (i := 9) ND rfl (by first | exact .inl rfl | exact .inr rfl)) (pgs_cons (pg_name (i := 10) ND rfl (by first | exact .inl rfl | exact .inr rfl)) pgs_nil)))
            (pss_one /- 218 -/ (ps_for PassesOwn.never rfl (pi_tup (pe_tup (pa_cons (pv 7) (pa_cons (pv 8) pa_nil)))) (pg_name (i := 11) ND rfl (by first | exact .inl rfl | exact .inr rfl))
              (pss_one /- 219 -/ (ps_if (pt_cmpR op_ne (pe_meth2 (pv 11) m_Led_shows m_Never_shows (hr.mono (by first | decide | omega)) (hr.mono (by first | decide | omega)) (pa_cons (pv 9) (pa_cons (pv 10) pa_nil))) (pe_call o_law_due.G (hr.mono (by first | decide | omega)) rfl o_law_due.D.g o_law_due.D.F.kp o_law_due.D.b .nil pass0 (pa_cons (pv 9) (pa_cons (pv 10) (pa_cons (pv 11) pa_nil)))) (nomark _))
                (pss_one /- 220 -/ (ps_ret pe_bl))
                pss_nil))))))))))))))
      (pss_one /- 221 -/ (ps_ret pe_bl)))), ?_⟩
    refine q_asg (ev_whole (ev_var rfl) S ev_c) fun H0 e0 => ?_
    generalize ((ns.sum.natAbs : Nat) : Int) = whole
    refine q_forNLn (xs := [.int 0, .int 1]) (el_lst (ea_cons ev_c (ea_cons ev_c ea_nil)) (by decide)) (fun p i σ' H' => ∃ y2 y3 y4 y5 y6 y7 y8 y9 y10 y11, σ' = [some (.ref a), some (.int whole), y2, y3, y4, y5, y6, y7, y8, y9, y10, y11] ∧ Ex H H' ∧ H' p = some (.lst [.int 0, .int 1]))
      (fun p H1 hp e1 h1 => ⟨none, none, none, none, none, none, none, none, none, none, rfl, e0.trans e1, h1⟩) (fun p i σ' H' _ ⟨_, _, _, _, _, _, _, _, _, _, _, _, h⟩ => sq_of h) (fun p i x σ' H1 hx ⟨y2, y3, y4, y5, y6, y7, y8, y9, y10, y11, hs, e1, h1⟩ => ?_) (fun p σ' H1 ⟨y2, y3, y4, y5, y6, y7, y8, y9, y10, y11, hs, e1, h1⟩ => ?_)
    · subst hs
      obtain ⟨b, rfl, b0, b1⟩ : ∃ b : Int, x = .int b ∧ 0 ≤ b ∧ b ≤ 100 := by
        rcases i with _ | _ | i
        · exact ⟨0, (Option.some.inj hx).symm, by decide, by decide⟩
        · exact ⟨1, (Option.some.inj hx).symm, by decide, by decide⟩
        · cases hx
      refine q_parXX (ex_call back_B (ea_cons (ev_var rfl) (ea_cons (ev_var rfl) (ea_cons ev_c ea_nil))) (sx_lawBoard (S.mono e1) b0 (by omega) (by decide) (by decide))) (fun H0 v H3 e3 _ => ex_call back_B (ea_cons (ev_var rfl) (ea_cons (ev_op (ev_var rfl) ev_c rv_I0) (ea_cons ev_c ea_nil))) (sx_lawBoard ((S.mono e1).mono e3) (by omega) (by omega) (by decide) (by decide))) fun v u H2 H3 e2 e3 ⟨pb, bs, hv, hb0, hb, hB, hb5⟩ ⟨pf, fs, hu', hf0, hf, hBf, _⟩ => ?_
      subst hv hu'
      have fb : pf ≠ pb := fun z => by rw [z, hb] at hf0; cases hf0
      have f6 := hBf.six
      obtain ⟨fl, hIf, fpos, fprop⟩ := isLasts_some hBf
      refine s_forR1 (n := 3) (ea_cons ev_c ea_nil) (by decide) (fun m σ' H' => ∃ y5 y6 y7 y8 y9 y10 y11 bs, σ' = [some (.ref a), some (.int whole), some (.int b), some (.ref pb), some (.ref pf), y5, y6, y7, y8, y9, y10, y11] ∧ Ex H1 H' ∧ H' pb = some (.lst (bs.map V.int)) ∧ Board bs ∧ bs.length ≤ 5 ∧ H' pf = some (.lst (fs.map V.int)))
        (fun H4 e4 => ⟨_, _, _, _, _, _, _, bs, rfl, (e2.trans e3).trans e4, (e3.trans e4) _ _ hb, hB, by omega, e4 _ _ hf⟩) (fun m σ' H4 hm ⟨z5, z6, z7, z8, z9, z10, z11, bs, hs, e4, hb, hB, hb5, hf⟩ => ?_) (fun σ' H4 ⟨z5, z6, z7, z8, z9, z10, z11, bs, hs, e4, hb, hB, hb5, hf⟩ => ⟨_, _, _, _, _, _, _, _, _, _, hs, e1.trans e4, e4 _ _ h1⟩)
      subst hs
      have b6 := hB.six
      have bpos := hB.one
      obtain ⟨ls, hI, lpos, lprop⟩ := isLasts_some hB
      have hm3 : (m : Int) ≤ 10 := by omega
      refine q_when (b := false) (et_is (et_not (et_B (ev_call (ea_cons (ev_var rfl) (ea_cons (ev_op (ev_var rfl) (ev_var rfl) rv_I0) ea_nil)) (sv_right8 hb hB)))) rfl) (fun h => nomatch h) fun _ H5 e5 => ?_
      have hb5' := e5 _ _ hb
      have l0 : ls.getD 0 0 ∈ ls := getD_mem lpos
      have lz : ls.getD (ls.length - 1) 0 ∈ ls := getD_mem (by omega)
      have p0 := lprop _ l0
      have pz := lprop _ lz
      have mb := maxL_le (ns := bs) (by omega) fun x hx => (hB.num x hx).2
      refine q_asg (v := .int (ls.getD 0 0)) (ev_ixNL (el_lasts (ex_call back_Lasts (ea_cons (ev_var rfl) ea_nil) (sx_lasts hb5' hB)) hI) ev_c (at_int_i (i := 0) (by decide) (by omega))) fun H6 e6 => ?_
      have hb6 := e6 _ _ hb5'
      have hw0 := (hI.mem _).mp l0
      have hwz : wys bs (ls.getD (ls.length - 1) 0 + 1) = 0 := by
        by_cases z : wys bs (ls.getD (ls.length - 1) 0 + 1) = 0
        · exact z
        · have := ways_odd z
          omega
      refine q_parXX (ex_call back_Led (ea_cons (ev_var rfl) (ea_cons (ev_var rfl) ea_nil)) (sx_ledL hb6 hB p0.1 hw0)) (fun H0 v H7 e7 _ => ex_call back_Never (ea_cons (ev_var rfl) (ea_cons (ev_op (ev_ixNL (el_lasts (ex_call back_Lasts (ea_cons (ev_var rfl) ea_nil) (sx_lasts (e7 _ _ hb6) hB)) hI) (ev_un ev_c ru_neg) (at_lastI lpos)) ev_c rv_I0) ea_nil)) (sx_ledN (e7 _ _ hb6) hB (by omega) hwz)) fun v u H7 H8 e7 e8 ⟨r1, dx1, l1, ws, ps, hv, _, hl0, hr1, hl1, hp1, hL⟩ ⟨r2, dx2, hu', _, hr2⟩ => ?_
      subst hv hu'
      have e58 := (e6.trans e7).trans e8
      have hb8 := e58 _ _ hb5'
      have hf8 := (e5.trans e58) _ _ hf
      have lb : l1 ≠ pb := fun z => by rw [z, hb6] at hl0; cases hl0
      refine q_dropS (RA := fun vs H1 => vs = [.ref pb, .int (whole / 7), .int (m : Int)] ∧ Ex H8 H1) (eax_A (ea_cons (ev_var rfl) (ea_cons (ev_op (ev_var rfl) ev_c (rv_I (divOk (by decide) (by decide)))) (ea_cons (ev_var rfl) ea_nil)))) fun vs H9 e9 ⟨hvs, _⟩ => ?_
      subst hvs
      refine ⟨pb, bs, whole / 7, (m : Int), rfl, e9 _ _ hb8, hB, hb5, by omega, hm3, fun bs' HA s9 hbA hBA h5A => ?_⟩
      have e8A : ∀ c o, c ≠ pb → H8 c = some o → HA c = some o := fun c o hc ho => s9 c o (by simp only [List.mem_singleton]; exact hc) (e9 _ _ ho)
      have hfA := e8A pf _ fb hf8
      have hr1A := e8A r1 _ (ne_of (e8 _ _ hr1) hb8 (fun z => nomatch z)) (e8 _ _ hr1)
      have hl1A := e8A l1 _ lb (e8 _ _ hl1)
      have hr2A := e8A r2 _ (ne_of hr2 hb8 (fun z => nomatch z)) hr2
      have hp1A : Prs HA ws ps := Paired.mapP (hp1.mono e8) fun v q ⟨t', g1, g2⟩ => ⟨t', g1, e8A t' _ (ne_of g2 hb8 (fun z => nomatch z)) g2⟩
      have hb0' : ∀ mm ∈ [pb], H1 mm = none := fun mm h => by rw [List.mem_singleton.mp h]; exact hb0
      have eA : Ex H1 HA := ExS.ex (e4.trans ((e5.trans e58).trans e9)) s9 hb0'
      obtain ⟨la, hIa, apos, aprop⟩ := isLasts_some hBA
      have a6 := hBA.six
      have BL : Board [ls.getD 0 0] := ⟨Nat.le_refl _, by show 1 ≤ 6; decide, fun x hx => by rw [List.mem_singleton.mp hx]; omega⟩
      have B7 : Board [7] := ⟨by decide, by decide, by decide⟩
      show tFor _ _ _ _ _ _
      refine s_forTP (n := 5) (tp_cons (tp_v (ev_var rfl) (ev_var rfl) hbA hBA) (tp_cons (tp_v (ev_var rfl) (ev_ixNL (el_lasts (ex_call back_Lasts (ea_cons (ev_var rfl) ea_nil) (sx_lasts hbA hBA)) hIa) (ev_un ev_c ru_neg) (at_lastI apos)) hbA hBA) (tp_cons (tp_v (ev_var rfl) (ev_ixNL (el_lasts (ex_call back_Lasts (ea_cons (ev_var rfl) ea_nil) (sx_lasts hfA hBf)) hIf) ev_c (at_int_i (i := 0) (by decide) (by omega))) hfA hBf) (tp_cons (tp_l (xs := [ls.getD 0 0]) (el_lst (ea_cons (ev_var rfl) ea_nil) (by show 1 ≤ 100000; decide)) (ev_var rfl) BL) (tp_cons (tp_l (xs := [7]) (el_lst (ea_cons ev_c ea_nil) (by show 1 ≤ 100000; decide)) ev_c B7) tp_nil))))) (by decide) fun pt vs HB eB hpt => ?_
      refine ⟨fun σ' H' => ∃ y9 y10 y11, σ' = [some (.ref a), some (.int whole), some (.int b), some (.ref pb), some (.ref pf), some (.int m), some (.int (ls.getD 0 0)), some (.ref r1), some (.ref r2), y9, y10, y11] ∧ Ex HB H', ⟨_, _, _, rfl, Ex.refl _⟩, fun σ' H' ⟨_, _, _, _, e⟩ => e, fun pq xs n σ' HC hpq hBx ⟨w9, w10, w11, hs, eC⟩ => ?_, fun σ' HC ⟨w9, w10, w11, hs, eC⟩ => ?_⟩
      · subst hs
        have x6 := hBx.six
        refine s_forNT (xs := [.ref r1, .ref r2]) (eu_tup (ea_cons (ev_var rfl) (ea_cons (ev_var rfl) ea_nil)) (by show 2 ≤ 100000; decide)) (fun p3 i σ' H' => ∃ y11, σ' = [some (.ref a), some (.int whole), some (.int b), some (.ref pb), some (.ref pf), some (.int m), some (.int (ls.getD 0 0)), some (.ref r1), some (.ref r2), some (.ref pq), some (.int n), y11] ∧ Ex HC H' ∧ H' p3 = some (.tup [.ref r1, .ref r2]))
          (fun p3 HD _ eD hD => ⟨_, rfl, eD, hD⟩) (fun p3 i σ' H' _ ⟨_, _, _, h⟩ => st_of h) (fun p3 i x σ' HD hx ⟨v11, hs, eD, hD⟩ => ?_) (fun p3 σ' HD ⟨v11, hs, eD, hD⟩ => ⟨_, _, _, hs, eC.trans eD⟩)
        subst hs
        have eAD := (eB.trans eC).trans eD
        have hqD := eD _ _ hpq
        rcases i with _ | _ | i
        · obtain rfl : V.ref r1 = x := Option.some.inj hx
          refine s_when (b := false) (et_is (et_test (ev_op (ev_meth2a (ev_var rfl) (eAD _ _ hr1A) (fW_no l1 sw) (ea_cons (ev_var rfl) (ea_cons (ev_var rfl) ea_nil)) (sv_ledShows (eAD _ _ hr1A) (eAD _ _ hl1A) (hp1A.mono eAD) hqD (by omega))) (ev_call (ea_cons (ev_var rfl) (ea_cons (ev_var rfl) (ea_cons (ev_var rfl) ea_nil))) (sv_dueL hqD hBx (eAD _ _ hr1A) (eAD _ _ hl1A) (hp1A.mono eAD))) (rv_ne rfl))) (by rw [decide_eq_true rfl]; rfl)) (fun h => nomatch h) fun _ HE eE => ⟨_, rfl, eD.trans eE, eE _ _ hD⟩
        · obtain rfl : V.ref r2 = x := Option.some.inj hx
          refine s_when (b := false) (et_is (et_test (ev_op (ev_meth2b (ev_var rfl) (eAD _ _ hr2A) rfl (ea_cons (ev_var rfl) (ea_cons (ev_var rfl) ea_nil)) (sv_neverShows hqD hBx.one x6)) (ev_call (ea_cons (ev_var rfl) (ea_cons (ev_var rfl) (ea_cons (ev_var rfl) ea_nil))) (sv_dueN hqD hBx (eAD _ _ hr2A))) (rv_ne rfl))) (by rw [decide_eq_true rfl]; rfl)) (fun h => nomatch h) fun _ HE eE => ⟨_, rfl, eD.trans eE, eE _ _ hD⟩
        · cases hx
      · subst hs
        exact ⟨_, _, _, _, _, _, _, bs', rfl, (eA.trans eB).trans eC, (eB.trans eC) _ _ hbA, hBA, h5A, (eB.trans eC) _ _ hfA⟩
    · subst hs
      exact s_ret ev_c fun H2 e2 => q H2 (e1.trans e2)
end
end Lw

namespace Lw
open PySem PySem.Spec PyProof.Rows L2 Evl Lw
theorem all_mk {l : PySem.W.OpenLaw} {w : World} {K : PySem.W.Frag} {h : Heap} {mg : Str → Option Value} {fa f1 f2 f3 f4 f5 f6 f7 f8 f9 f10 f11 f12 f13 f14 f15 f16 f17 f18 f19 f20 f21 f22 f23 f24 f25 f26 f27 f28 : Addr} (X : K.In h) (G : h.Ns mainGlobals mg) (hfa : mg "law" = some (.ref fa))
    {od1 an1 od2 an2 od3 an3 od4 an4 od5 an5 od6 an6 od7 an7 od8 an8 od9 an9 od10 an10 od11 an11 od12 an12 od13 an13 od14 an14 od15 an15 od16 an16 od17 an17 od18 an18 od19 an19 od20 an20 od21 an21 od22 an22 od23 an23 od24 an24 od25 an25 od26 an26 od27 an27 od28 an28 : Option Addr} {sl1 sl2 sl3 sl4 sl5 sl6 sl7 sl8 sl9 sl10 sl11 sl12 sl13 sl14 sl15 sl16 sl17 sl18 sl19 sl20 sl21 sl22 sl23 sl24 sl25 sl26 sl27 sl28 : Array (Option Value)} {oc1 kV1 dc1 pm1 cd1 ct1 oc2 kV2 dc2 pm2 cd2 ct2 oc3 kV3 dc3 pm3 cd3 ct3 oc4 kV4 dc4 pm4 cd4 ct4 oc5 kV5 dc5 pm5 cd5 ct5 oc6 kV6 dc6 pm6 cd6 ct6 oc7 kV7 dc7 pm7 cd7 ct7 oc8 kV8 dc8 pm8 cd8 ct8 oc9 kV9 dc9 pm9 cd9 ct9 oc10 kV10 dc10 pm10 cd10 ct10 oc11 kV11 dc11 pm11 cd11 ct11 oc12 kV12 dc12 pm12 cd12 ct12 oc13 kV13 dc13 pm13 cd13 ct13 oc14 kV14 dc14 pm14 cd14 ct14 oc15 kV15 dc15 pm15 cd15 ct15 oc16 kV16 dc16 pm16 cd16 ct16 oc17 kV17 dc17 pm17 cd17 ct17 oc18 kV18 dc18 pm18 cd18 ct18 oc19 kV19 dc19 pm19 cd19 ct19 oc20 kV20 dc20 pm20 cd20 ct20 oc21 kV21 dc21 pm21 cd21 ct21 oc22 kV22 dc22 pm22 cd22 ct22 oc23 kV23 dc23 pm23 cd23 ct23 oc24 kV24 dc24 pm24 cd24 ct24 oc25 kV25 dc25 pm25 cd25 ct25 oc26 kV26 dc26 pm26 cd26 ct26 oc27 kV27 dc27 pm27 cd27 ct27 oc28 kV28 dc28 pm28 cd28 ct28 : Value}
    {tc_MOST tc_GREATEST : Tok}
    {CA CL CN : Addr} (aA : PySem.W.nsIn K mainGlobals "Answer" = some (some (.ref CA))) (aL : PySem.W.nsIn K mainGlobals "Led" = some (some (.ref CL))) (aN : PySem.W.nsIn K mainGlobals "Never" = some (some (.ref CN)))
    (pgL : PySem.W.plainGet K CL Str.empty = true) (hdL : PySem.W.hasDictIn K CL = true) (poL : PySem.W.plainOver K CL = true) (saL : PySem.W.findIn K (.ref CL) "__setattr__" = some (some (.builtin "object.__setattr__"))) (mkL : PySem.W.makesIn K CL = true) (kcL : PySem.W.keepIn K (.ref CL) = true) (haL : PySem.W.findIn K (.ref CL) "__class__" = some (some (.builtin "object.__class__"))) (hmL : PySem.W.mroIn K CL (.type "object") = some true)
    (pgN : PySem.W.plainGet K CN Str.empty = true) (hdN : PySem.W.hasDictIn K CN = true) (poN : PySem.W.plainOver K CN = true) (saN : PySem.W.findIn K (.ref CN) "__setattr__" = some (some (.builtin "object.__setattr__"))) (mkN : PySem.W.makesIn K CN = true) (kcN : PySem.W.keepIn K (.ref CN) = true) (haN : PySem.W.findIn K (.ref CN) "__class__" = some (some (.builtin "object.__class__"))) (hmN : PySem.W.mroIn K CN (.type "object") = some true)
    (hn : PySem.W.specialIn K (.builtin "object.__class__") "__get__" = some (some (.builtin "getset_descriptor.__get__"))) (htk : PySem.W.takesIn K (.builtin "object.__class__") = some true) (inN : PySem.W.findIn K (.ref CN) "__init__" = some (some (.builtin "object.__init__"))) (nW : PySem.W.findIn K (.ref CL) "wipings" = some none)
    (icA : PySem.W.isClsIn K CA = true) (tyA : PySem.W.typeIn K (.ref CA) = some (.type "type"))
    (icL : PySem.W.isClsIn K CL = true) (tyL : PySem.W.typeIn K (.ref CL) = some (.type "type"))
    (icN : PySem.W.isClsIn K CN = true) (tyN : PySem.W.typeIn K (.ref CN) = some (.type "type"))
    (sLA : PySem.W.subIn K (.ref CL) (.ref CA) = some true)
    (sLN : PySem.W.subIn K (.ref CL) (.ref CN) = some false)
    (sNA : PySem.W.subIn K (.ref CN) (.ref CA) = some true)
    (sNL : PySem.W.subIn K (.ref CN) (.ref CL) = some false)
    (a1 : PySem.W.findIn K (.ref CL) "__init__" = some (some (.ref f1))) (i1 : PySem.W.isFn K (.ref f1) = true) (l1 : K.lookup f1 = some ⟨oc1, od1, .func (PySem.W.fnOf "__init__" "Led.__init__" (defArgs s_Led_init) (defBody s_Led_init) (defScope s_Led_init) .none kV1 dc1 pm1 an1 cd1 ct1), sl1⟩) (e1 : PySem.W.codeIn K cd1 "Led.__init__" = true) (k1 : PySem.W.keepIn K (.ref f1) = true)
    (a2 : PySem.W.nsIn K mainGlobals "_law_number" = some (some (.ref f2))) (l2 : K.lookup f2 = some ⟨oc2, od2, .func (PySem.W.fnOf "_law_number" "_law_number" (defArgs s_law_number) (defBody s_law_number) (defScope s_law_number) .none kV2 dc2 pm2 an2 cd2 ct2), sl2⟩) (e2 : PySem.W.codeIn K cd2 "_law_number" = true) (k2 : PySem.W.keepIn K (.ref f2) = true)
    (a3 : PySem.W.nsIn K mainGlobals "_law_board" = some (some (.ref f3))) (l3 : K.lookup f3 = some ⟨oc3, od3, .func (PySem.W.fnOf "_law_board" "_law_board" (defArgs s_law_board) (defBody s_law_board) (defScope s_law_board) .none kV3 dc3 pm3 an3 cd3 ct3), sl3⟩) (e3 : PySem.W.codeIn K cd3 "_law_board" = true) (k3 : PySem.W.keepIn K (.ref f3) = true)
    (a4 : PySem.W.nsIn K mainGlobals "_law_pairs" = some (some (.ref f4))) (l4 : K.lookup f4 = some ⟨oc4, od4, .func (PySem.W.fnOf "_law_pairs" "_law_pairs" (defArgs s_law_pairs) (defBody s_law_pairs) (defScope s_law_pairs) .none kV4 dc4 pm4 an4 cd4 ct4), sl4⟩) (e4 : PySem.W.codeIn K cd4 "_law_pairs" = true) (k4 : PySem.W.keepIn K (.ref f4) = true)
    (a5 : PySem.W.nsIn K mainGlobals "_law_wiped" = some (some (.ref f5))) (l5 : K.lookup f5 = some ⟨oc5, od5, .func (PySem.W.fnOf "_law_wiped" "_law_wiped" (defArgs s_law_wiped) (defBody s_law_wiped) (defScope s_law_wiped) .none kV5 dc5 pm5 an5 cd5 ct5), sl5⟩) (e5 : PySem.W.codeIn K cd5 "_law_wiped" = true) (k5 : PySem.W.keepIn K (.ref f5) = true)
    (a6 : PySem.W.nsIn K mainGlobals "_law_tally" = some (some (.ref f6))) (l6 : K.lookup f6 = some ⟨oc6, od6, .func (PySem.W.fnOf "_law_tally" "_law_tally" (defArgs s_law_tally) (defBody s_law_tally) (defScope s_law_tally) .none kV6 dc6 pm6 an6 cd6 ct6), sl6⟩) (e6 : PySem.W.codeIn K cd6 "_law_tally" = true) (k6 : PySem.W.keepIn K (.ref f6) = true)
    (a7 : PySem.W.nsIn K mainGlobals "is_whole" = some (some (.ref f7))) (l7 : K.lookup f7 = some ⟨oc7, od7, .func (PySem.W.fnOf "is_whole" "is_whole" (defArgs s_is_whole) (defBody s_is_whole) (defScope s_is_whole) .none kV7 dc7 pm7 an7 cd7 ct7), sl7⟩) (e7 : PySem.W.codeIn K cd7 "is_whole" = true) (k7 : PySem.W.keepIn K (.ref f7) = true)
    (a8 : PySem.W.nsIn K mainGlobals "asked_board" = some (some (.ref f8))) (l8 : K.lookup f8 = some ⟨oc8, od8, .func (PySem.W.fnOf "asked_board" "asked_board" (defArgs s_asked_board) (defBody s_asked_board) (defScope s_asked_board) .none kV8 dc8 pm8 an8 cd8 ct8), sl8⟩) (e8 : PySem.W.codeIn K cd8 "asked_board" = true) (k8 : PySem.W.keepIn K (.ref f8) = true)
    (a9 : PySem.W.nsIn K mainGlobals "wiped_of" = some (some (.ref f9))) (l9 : K.lookup f9 = some ⟨oc9, od9, .func (PySem.W.fnOf "wiped_of" "wiped_of" (defArgs s_wiped_of) (defBody s_wiped_of) (defScope s_wiped_of) .none kV9 dc9 pm9 an9 cd9 ct9), sl9⟩) (e9 : PySem.W.codeIn K cd9 "wiped_of" = true) (k9 : PySem.W.keepIn K (.ref f9) = true)
    (a10 : PySem.W.nsIn K mainGlobals "wipings_of" = some (some (.ref f10))) (l10 : K.lookup f10 = some ⟨oc10, od10, .func (PySem.W.fnOf "wipings_of" "wipings_of" (defArgs s_wipings_of) (defBody s_wipings_of) (defScope s_wipings_of) .none kV10 dc10 pm10 an10 cd10 ct10), sl10⟩) (e10 : PySem.W.codeIn K cd10 "wipings_of" = true) (k10 : PySem.W.keepIn K (.ref f10) = true)
    (a11 : PySem.W.nsIn K mainGlobals "ways_of" = some (some (.ref f11))) (l11 : K.lookup f11 = some ⟨oc11, od11, .func (PySem.W.fnOf "ways_of" "ways_of" (defArgs s_ways_of) (defBody s_ways_of) (defScope s_ways_of) .none kV11 dc11 pm11 an11 cd11 ct11), sl11⟩) (e11 : PySem.W.codeIn K cd11 "ways_of" = true) (k11 : PySem.W.keepIn K (.ref f11) = true)
    (a12 : PySem.W.nsIn K mainGlobals "lasts" = some (some (.ref f12))) (l12 : K.lookup f12 = some ⟨oc12, od12, .func (PySem.W.fnOf "lasts" "lasts" (defArgs s_lasts) (defBody s_lasts) (defScope s_lasts) .none kV12 dc12 pm12 an12 cd12 ct12), sl12⟩) (e12 : PySem.W.codeIn K cd12 "lasts" = true) (k12 : PySem.W.keepIn K (.ref f12) = true)
    (a13 : PySem.W.nsIn K mainGlobals "is_wiping" = some (some (.ref f13))) (l13 : K.lookup f13 = some ⟨oc13, od13, .func (PySem.W.fnOf "is_wiping" "is_wiping" (defArgs s_is_wiping) (defBody s_is_wiping) (defScope s_is_wiping) .none kV13 dc13 pm13 an13 cd13 ct13), sl13⟩) (e13 : PySem.W.codeIn K cd13 "is_wiping" = true) (k13 : PySem.W.keepIn K (.ref f13) = true)
    (a14 : PySem.W.nsIn K mainGlobals "wiped" = some (some (.ref f14))) (l14 : K.lookup f14 = some ⟨oc14, od14, .func (PySem.W.fnOf "wiped" "wiped" (defArgs s_wiped) (defBody s_wiped) (defScope s_wiped) .none kV14 dc14 pm14 an14 cd14 ct14), sl14⟩) (e14 : PySem.W.codeIn K cd14 "wiped" = true) (k14 : PySem.W.keepIn K (.ref f14) = true)
    (a15 : PySem.W.nsIn K mainGlobals "asked_last" = some (some (.ref f15))) (l15 : K.lookup f15 = some ⟨oc15, od15, .func (PySem.W.fnOf "asked_last" "asked_last" (defArgs s_asked_last) (defBody s_asked_last) (defScope s_asked_last) .none kV15 dc15 pm15 an15 cd15 ct15), sl15⟩) (e15 : PySem.W.codeIn K cd15 "asked_last" = true) (k15 : PySem.W.keepIn K (.ref f15) = true)
    (a16 : PySem.W.nsIn K mainGlobals "how_many" = some (some (.ref f16))) (l16 : K.lookup f16 = some ⟨oc16, od16, .func (PySem.W.fnOf "how_many" "how_many" (defArgs s_how_many) (defBody s_how_many) (defScope s_how_many) .none kV16 dc16 pm16 an16 cd16 ct16), sl16⟩) (e16 : PySem.W.codeIn K cd16 "how_many" = true) (k16 : PySem.W.keepIn K (.ref f16) = true)
    (a17 : PySem.W.nsIn K mainGlobals "led" = some (some (.ref f17))) (l17 : K.lookup f17 = some ⟨oc17, od17, .func (PySem.W.fnOf "led" "led" (defArgs s_led) (defBody s_led) (defScope s_led) .none kV17 dc17 pm17 an17 cd17 ct17), sl17⟩) (e17 : PySem.W.codeIn K cd17 "led" = true) (k17 : PySem.W.keepIn K (.ref f17) = true)
    (a18 : PySem.W.nsIn K mainGlobals "_law_left" = some (some (.ref f18))) (l18 : K.lookup f18 = some ⟨oc18, od18, .func (PySem.W.fnOf "_law_left" "_law_left" (defArgs s_law_left) (defBody s_law_left) (defScope s_law_left) .none kV18 dc18 pm18 an18 cd18 ct18), sl18⟩) (e18 : PySem.W.codeIn K cd18 "_law_left" = true) (k18 : PySem.W.keepIn K (.ref f18) = true)
    (a19 : PySem.W.nsIn K mainGlobals "_law_due" = some (some (.ref f19))) (l19 : K.lookup f19 = some ⟨oc19, od19, .func (PySem.W.fnOf "_law_due" "_law_due" (defArgs s_law_due) (defBody s_law_due) (defScope s_law_due) .none kV19 dc19 pm19 an19 cd19 ct19), sl19⟩) (e19 : PySem.W.codeIn K cd19 "_law_due" = true) (k19 : PySem.W.keepIn K (.ref f19) = true)
    (a20 : PySem.W.nsIn K mainGlobals "boards_behind" = some (some (.ref f20))) (l20 : K.lookup f20 = some ⟨oc20, od20, .func (PySem.W.fnOf "boards_behind" "boards_behind" (defArgs s_boards_behind) (defBody s_boards_behind) (defScope s_boards_behind) .none kV20 dc20 pm20 an20 cd20 ct20), sl20⟩) (e20 : PySem.W.codeIn K cd20 "boards_behind" = true) (k20 : PySem.W.keepIn K (.ref f20) = true)
    (a21 : PySem.W.nsIn K mainGlobals "_law_unlike" = some (some (.ref f21))) (l21 : K.lookup f21 = some ⟨oc21, od21, .func (PySem.W.fnOf "_law_unlike" "_law_unlike" (defArgs s_law_unlike) (defBody s_law_unlike) (defScope s_law_unlike) .none kV21 dc21 pm21 an21 cd21 ct21), sl21⟩) (e21 : PySem.W.codeIn K cd21 "_law_unlike" = true) (k21 : PySem.W.keepIn K (.ref f21) = true)
    (a22 : PySem.W.nsIn K mainGlobals "_law_right" = some (some (.ref f22))) (l22 : K.lookup f22 = some ⟨oc22, od22, .func (PySem.W.fnOf "_law_right" "_law_right" (defArgs s_law_right) (defBody s_law_right) (defScope s_law_right) .none kV22 dc22 pm22 an22 cd22 ct22), sl22⟩) (e22 : PySem.W.codeIn K cd22 "_law_right" = true) (k22 : PySem.W.keepIn K (.ref f22) = true)
    (a23 : PySem.W.nsIn K mainGlobals "_law_changed" = some (some (.ref f23))) (l23 : K.lookup f23 = some ⟨oc23, od23, .func (PySem.W.fnOf "_law_changed" "_law_changed" (defArgs s_law_changed) (defBody s_law_changed) (defScope s_law_changed) .none kV23 dc23 pm23 an23 cd23 ct23), sl23⟩) (e23 : PySem.W.codeIn K cd23 "_law_changed" = true) (k23 : PySem.W.keepIn K (.ref f23) = true)
    (a24 : PySem.W.nsIn K mainGlobals "left_behind" = some (some (.ref f24))) (l24 : K.lookup f24 = some ⟨oc24, od24, .func (PySem.W.fnOf "left_behind" "left_behind" (defArgs s_left_behind) (defBody s_left_behind) (defScope s_left_behind) .none kV24 dc24 pm24 an24 cd24 ct24), sl24⟩) (e24 : PySem.W.codeIn K cd24 "left_behind" = true) (k24 : PySem.W.keepIn K (.ref f24) = true)
    (a25 : PySem.W.findIn K (.ref CL) "shows" = some (some (.ref f25))) (i25 : PySem.W.isFn K (.ref f25) = true) (l25 : K.lookup f25 = some ⟨oc25, od25, .func (PySem.W.fnOf "shows" "Led.shows" (defArgs s_Led_shows) (defBody s_Led_shows) (defScope s_Led_shows) .none kV25 dc25 pm25 an25 cd25 ct25), sl25⟩) (e25 : PySem.W.codeIn K cd25 "Led.shows" = true) (k25 : PySem.W.keepIn K (.ref f25) = true)
    (a26 : PySem.W.nsIn K mainGlobals "can_be" = some (some (.ref f26))) (l26 : K.lookup f26 = some ⟨oc26, od26, .func (PySem.W.fnOf "can_be" "can_be" (defArgs s_can_be) (defBody s_can_be) (defScope s_can_be) .none kV26 dc26 pm26 an26 cd26 ct26), sl26⟩) (e26 : PySem.W.codeIn K cd26 "can_be" = true) (k26 : PySem.W.keepIn K (.ref f26) = true)
    (a27 : PySem.W.findIn K (.ref CN) "shows" = some (some (.ref f27))) (i27 : PySem.W.isFn K (.ref f27) = true) (l27 : K.lookup f27 = some ⟨oc27, od27, .func (PySem.W.fnOf "shows" "Never.shows" (defArgs s_Never_shows) (defBody s_Never_shows) (defScope s_Never_shows) .none kV27 dc27 pm27 an27 cd27 ct27), sl27⟩) (e27 : PySem.W.codeIn K cd27 "Never.shows" = true) (k27 : PySem.W.keepIn K (.ref f27) = true)
    (a28 : PySem.W.nsIn K mainGlobals "law" = some (some (.ref f28))) (l28 : K.lookup f28 = some ⟨oc28, od28, .func (PySem.W.fnOf "law" "law" (defArgs s_law) (defBody s_law) (defScope s_law) .none kV28 dc28 pm28 an28 cd28 ct28), sl28⟩) (e28 : PySem.W.codeIn K cd28 "law" = true) (k28 : PySem.W.keepIn K (.ref f28) = true)
    (zc_MOST : PySem.W.nsIn K mainGlobals "MOST" = some (some (.int 6 tc_MOST)))
    (zc_GREATEST : PySem.W.nsIn K mainGlobals "GREATEST" = some (some (.int 1000000 tc_GREATEST)))
    (z_isinstance : PySem.W.nsIn K mainGlobals "isinstance" = some none)
    (z_int : PySem.W.nsIn K mainGlobals "int" = some none)
    (z_bool : PySem.W.nsIn K mainGlobals "bool" = some none)
    (z_list : PySem.W.nsIn K mainGlobals "list" = some none)
    (z_tuple : PySem.W.nsIn K mainGlobals "tuple" = some none)
    (z_len : PySem.W.nsIn K mainGlobals "len" = some none)
    (z_all : PySem.W.nsIn K mainGlobals "all" = some none)
    (z_any : PySem.W.nsIn K mainGlobals "any" = some none)
    (z_abs : PySem.W.nsIn K mainGlobals "abs" = some none)
    (z_sum : PySem.W.nsIn K mainGlobals "sum" = some none)
    (z_max : PySem.W.nsIn K mainGlobals "max" = some none)
    (z_min : PySem.W.nsIn K mainGlobals "min" = some none)
    (z_sorted : PySem.W.nsIn K mainGlobals "sorted" = some none)
    (z_range : PySem.W.nsIn K mainGlobals "range" = some none)
    (z_enumerate : PySem.W.nsIn K mainGlobals "enumerate" = some none) :
    ∃ fd : FuncData, (∀ (s : Shared) (v : Value), BindsTo s fd ⟨[v], []⟩ [("_law_script", v)]) ∧ ∀ base : Heap, K.In base → base.Ns mainGlobals mg → FnOk l.prog w K mg base CX0 10 fa fd ["_law_script"] (spLaw K) := by
  have e := hfa.symm.trans (PySem.W.mg_of X G a28)
  cases e
  have T : Blt mg := ⟨PySem.W.mg_none_of X G z_isinstance, PySem.W.mg_none_of X G z_int, PySem.W.mg_none_of X G z_bool, PySem.W.mg_none_of X G z_list, PySem.W.mg_none_of X G z_tuple, PySem.W.mg_none_of X G z_len, PySem.W.mg_none_of X G z_all, PySem.W.mg_none_of X G z_any, PySem.W.mg_none_of X G z_abs, PySem.W.mg_none_of X G z_sum, PySem.W.mg_none_of X G z_max, PySem.W.mg_none_of X G z_min, PySem.W.mg_none_of X G z_sorted, PySem.W.mg_none_of X G z_range, PySem.W.mg_none_of X G z_enumerate⟩
  have c_MOST := PySem.W.mg_of X G zc_MOST
  have c_GREATEST := PySem.W.mg_of X G zc_GREATEST
  have F1 := fun_mk (st := s_Led_init) l1 e1 k1
  have D1 : Dm K "__init__" "Led.__init__" s_Led_init ["self", "wipings"] f1 _ := ⟨F1, F1.binds (ps := ["self", "wipings"]) fun _ _ _ _ _ _ us hl => match us, hl with | [_, _], _ => rfl⟩
  have F2 := fun_mk (st := s_law_number) l2 e2 k2
  have D2 : Df K mg "_law_number" s_law_number ["_law_cell", "_law_at", "_law_whole"] f2 _ := ⟨F2, F2.binds (ps := ["_law_cell", "_law_at", "_law_whole"]) fun _ _ _ _ _ _ us hl => match us, hl with | [_, _, _], _ => rfl, PySem.W.mg_of X G a2⟩
  have F3 := fun_mk (st := s_law_board) l3 e3 k3
  have D3 : Df K mg "_law_board" s_law_board ["_law_script", "_law_by", "_law_most"] f3 _ := ⟨F3, F3.binds (ps := ["_law_script", "_law_by", "_law_most"]) fun _ _ _ _ _ _ us hl => match us, hl with | [_, _, _], _ => rfl, PySem.W.mg_of X G a3⟩
  have F4 := fun_mk (st := s_law_pairs) l4 e4 k4
  have D4 : Df K mg "_law_pairs" s_law_pairs ["_law_many"] f4 _ := ⟨F4, F4.binds (ps := ["_law_many"]) fun _ _ _ _ _ _ us hl => match us, hl with | [_], _ => rfl, PySem.W.mg_of X G a4⟩
  have F5 := fun_mk (st := s_law_wiped) l5 e5 k5
  have D5 : Df K mg "_law_wiped" s_law_wiped ["_law_board_here", "_law_pair"] f5 _ := ⟨F5, F5.binds (ps := ["_law_board_here", "_law_pair"]) fun _ _ _ _ _ _ us hl => match us, hl with | [_, _], _ => rfl, PySem.W.mg_of X G a5⟩
  have F6 := fun_mk (st := s_law_tally) l6 e6 k6
  have D6 : Df K mg "_law_tally" s_law_tally ["_law_board_here"] f6 _ := ⟨F6, F6.binds (ps := ["_law_board_here"]) fun _ _ _ _ _ _ us hl => match us, hl with | [_], _ => rfl, PySem.W.mg_of X G a6⟩
  have F7 := fun_mk (st := s_is_whole) l7 e7 k7
  have D7 : Df K mg "is_whole" s_is_whole ["thing"] f7 _ := ⟨F7, F7.binds (ps := ["thing"]) fun _ _ _ _ _ _ us hl => match us, hl with | [_], _ => rfl, PySem.W.mg_of X G a7⟩
  have F8 := fun_mk (st := s_asked_board) l8 e8 k8
  have D8 : Df K mg "asked_board" s_asked_board ["board"] f8 _ := ⟨F8, F8.binds (ps := ["board"]) fun _ _ _ _ _ _ us hl => match us, hl with | [_], _ => rfl, PySem.W.mg_of X G a8⟩
  have F9 := fun_mk (st := s_wiped_of) l9 e9 k9
  have D9 : Df K mg "wiped_of" s_wiped_of ["board", "wiping"] f9 _ := ⟨F9, F9.binds (ps := ["board", "wiping"]) fun _ _ _ _ _ _ us hl => match us, hl with | [_, _], _ => rfl, PySem.W.mg_of X G a9⟩
  have F10 := fun_mk (st := s_wipings_of) l10 e10 k10
  have D10 : Df K mg "wipings_of" s_wipings_of ["many"] f10 _ := ⟨F10, F10.binds (ps := ["many"]) fun _ _ _ _ _ _ us hl => match us, hl with | [_], _ => rfl, PySem.W.mg_of X G a10⟩
  have F11 := fun_mk (st := s_ways_of) l11 e11 k11
  have D11 : Df K mg "ways_of" s_ways_of ["board", "known"] f11 _ := ⟨F11, F11.binds (ps := ["board", "known"]) fun _ _ _ _ _ _ us hl => match us, hl with | [_, _], _ => rfl, PySem.W.mg_of X G a11⟩
  have F12 := fun_mk (st := s_lasts) l12 e12 k12
  have D12 : Df K mg "lasts" s_lasts ["board"] f12 _ := ⟨F12, F12.binds (ps := ["board"]) fun _ _ _ _ _ _ us hl => match us, hl with | [_], _ => rfl, PySem.W.mg_of X G a12⟩
  have F13 := fun_mk (st := s_is_wiping) l13 e13 k13
  have D13 : Df K mg "is_wiping" s_is_wiping ["thing", "many"] f13 _ := ⟨F13, F13.binds (ps := ["thing", "many"]) fun _ _ _ _ _ _ us hl => match us, hl with | [_, _], _ => rfl, PySem.W.mg_of X G a13⟩
  have F14 := fun_mk (st := s_wiped) l14 e14 k14
  have D14 : Df K mg "wiped" s_wiped ["board", "wiping"] f14 _ := ⟨F14, F14.binds (ps := ["board", "wiping"]) fun _ _ _ _ _ _ us hl => match us, hl with | [_, _], _ => rfl, PySem.W.mg_of X G a14⟩
  have F15 := fun_mk (st := s_asked_last) l15 e15 k15
  have D15 : Df K mg "asked_last" s_asked_last ["last"] f15 _ := ⟨F15, F15.binds (ps := ["last"]) fun _ _ _ _ _ _ us hl => match us, hl with | [_], _ => rfl, PySem.W.mg_of X G a15⟩
  have F16 := fun_mk (st := s_how_many) l16 e16 k16
  have D16 : Df K mg "how_many" s_how_many ["board", "last"] f16 _ := ⟨F16, F16.binds (ps := ["board", "last"]) fun _ _ _ _ _ _ us hl => match us, hl with | [_, _], _ => rfl, PySem.W.mg_of X G a16⟩
  have F17 := fun_mk (st := s_led) l17 e17 k17
  have D17 : Df K mg "led" s_led ["board", "last"] f17 _ := ⟨F17, F17.binds (ps := ["board", "last"]) fun _ _ _ _ _ _ us hl => match us, hl with | [_, _], _ => rfl, PySem.W.mg_of X G a17⟩
  have F18 := fun_mk (st := s_law_left) l18 e18 k18
  have D18 : Df K mg "_law_left" s_law_left ["_law_board_here", "_law_pairs_here"] f18 _ := ⟨F18, F18.binds (ps := ["_law_board_here", "_law_pairs_here"]) fun _ _ _ _ _ _ us hl => match us, hl with | [_, _], _ => rfl, PySem.W.mg_of X G a18⟩
  have F19 := fun_mk (st := s_law_due) l19 e19 k19
  have D19 : Df K mg "_law_due" s_law_due ["_law_board_here", "_law_last", "_law_answer"] f19 _ := ⟨F19, F19.binds (ps := ["_law_board_here", "_law_last", "_law_answer"]) fun _ _ _ _ _ _ us hl => match us, hl with | [_, _, _], _ => rfl, PySem.W.mg_of X G a19⟩
  have F20 := fun_mk (st := s_boards_behind) l20 e20 k20
  have D20 : Df K mg "boards_behind" s_boards_behind ["board", "many"] f20 _ := ⟨F20, F20.binds (ps := ["board", "many"]) fun _ _ _ _ _ _ us hl => match us, hl with | [_, _], _ => rfl, PySem.W.mg_of X G a20⟩
  have F21 := fun_mk (st := s_law_unlike) l21 e21 k21
  have D21 : Df K mg "_law_unlike" s_law_unlike ["_law_board_here", "_law_many"] f21 _ := ⟨F21, F21.binds (ps := ["_law_board_here", "_law_many"]) fun _ _ _ _ _ _ us hl => match us, hl with | [_, _], _ => rfl, PySem.W.mg_of X G a21⟩
  have F22 := fun_mk (st := s_law_right) l22 e22 k22
  have D22 : Df K mg "_law_right" s_law_right ["_law_board_here", "_law_whole"] f22 _ := ⟨F22, F22.binds (ps := ["_law_board_here", "_law_whole"]) fun _ _ _ _ _ _ us hl => match us, hl with | [_, _], _ => rfl, PySem.W.mg_of X G a22⟩
  have F23 := fun_mk (st := s_law_changed) l23 e23 k23
  have D23 : Df K mg "_law_changed" s_law_changed ["_law_board_here", "_law_whole", "_law_turn"] f23 _ := ⟨F23, F23.binds (ps := ["_law_board_here", "_law_whole", "_law_turn"]) fun _ _ _ _ _ _ us hl => match us, hl with | [_, _, _], _ => rfl, PySem.W.mg_of X G a23⟩
  have F24 := fun_mk (st := s_left_behind) l24 e24 k24
  have D24 : Df K mg "left_behind" s_left_behind ["board", "wipings"] f24 _ := ⟨F24, F24.binds (ps := ["board", "wipings"]) fun _ _ _ _ _ _ us hl => match us, hl with | [_, _], _ => rfl, PySem.W.mg_of X G a24⟩
  have F25 := fun_mk (st := s_Led_shows) l25 e25 k25
  have D25 : Dm K "shows" "Led.shows" s_Led_shows ["self", "board", "last"] f25 _ := ⟨F25, F25.binds (ps := ["self", "board", "last"]) fun _ _ _ _ _ _ us hl => match us, hl with | [_, _, _], _ => rfl⟩
  have F26 := fun_mk (st := s_can_be) l26 e26 k26
  have D26 : Df K mg "can_be" s_can_be ["board", "last", "known"] f26 _ := ⟨F26, F26.binds (ps := ["board", "last", "known"]) fun _ _ _ _ _ _ us hl => match us, hl with | [_, _, _], _ => rfl, PySem.W.mg_of X G a26⟩
  have F27 := fun_mk (st := s_Never_shows) l27 e27 k27
  have D27 : Dm K "shows" "Never.shows" s_Never_shows ["self", "board", "last"] f27 _ := ⟨F27, F27.binds (ps := ["self", "board", "last"]) fun _ _ _ _ _ _ us hl => match us, hl with | [_, _, _], _ => rfl⟩
  have F28 := fun_mk (st := s_law) l28 e28 k28
  have D28 : Df K mg "law" s_law ["_law_script"] fa _ := ⟨F28, F28.binds (ps := ["_law_script"]) fun _ _ _ _ _ _ us hl => match us, hl with | [_], _ => rfl, PySem.W.mg_of X G a28⟩
  refine ⟨PySem.W.fnOf "law" "law" (defArgs s_law) (defBody s_law) (defScope s_law) .none kV28 dc28 pm28 an28 cd28 ct28, fun s v => .of_eq rfl, fun base _ _ => ?_⟩
  have clL : Cls K CL := ⟨pgL, hdL, poL, saL⟩
  have clN : Cls K CN := ⟨pgN, hdN, poN, saN⟩
  have neLN : CL ≠ CN := fun z => by rw [z, inN] at a1; cases a1
  have A : Ans K mg CA CL CN f1 := ⟨PySem.W.mg_of X G aA, ⟨PySem.W.mg_of X G aL, clL, haL, hn, htk, hmL⟩, ⟨PySem.W.mg_of X G aN, clN, haN, hn, htk, hmN⟩, ⟨mkL, a1, i1, kcL⟩, ⟨mkN, inN, hmN, kcN⟩, nW, kit_own icA tyA sLA (fun _ => rfl), kit_self, kit_own icN tyN sLN (fun z => absurd z neLN), kit_own icA tyA sNA (fun _ => rfl), kit_own icL tyL sNL (fun z => absurd z.symm neLN), kit_self⟩
  have m_Led_init : Me l.prog w K mg base CX0 1 CL "__init__" "Led.__init__" s_Led_init ["self", "wipings"] (spLedInit CL) f1 _ := ⟨D1, clL, ⟨a1, i1, k1⟩, ok_Led_init D1 T A⟩
  have o_law_number : Ok l.prog w K mg base CX0 1 "_law_number" s_law_number ["_law_cell", "_law_at", "_law_whole"] spLawNumber f2 _ := ⟨D2, ok_law_number D2 T ⟩
  have o_law_board : Ok l.prog w K mg base CX0 2 "_law_board" s_law_board ["_law_script", "_law_by", "_law_most"] (spLawBoard K) f3 _ := ⟨D3, ok_law_board D3 T o_law_number⟩
  have o_law_pairs : Ok l.prog w K mg base CX0 1 "_law_pairs" s_law_pairs ["_law_many"] spLawPairs f4 _ := ⟨D4, ok_law_pairs D4 T ⟩
  have o_law_wiped : Ok l.prog w K mg base CX0 1 "_law_wiped" s_law_wiped ["_law_board_here", "_law_pair"] spWipedOf f5 _ := ⟨D5, ok_law_wiped D5 T ⟩
  have o_law_tally : Ok l.prog w K mg base CX0 2 "_law_tally" s_law_tally ["_law_board_here"] spLawTally f6 _ := ⟨D6, ok_law_tally D6 T o_law_pairs o_law_wiped⟩
  have o_is_whole : Ok l.prog w K mg base CX0 1 "is_whole" s_is_whole ["thing"] (spIsWhole K) f7 _ := ⟨D7, ok_is_whole D7 T ⟩
  have o_asked_board : Ok l.prog w K mg base CX0 2 "asked_board" s_asked_board ["board"] spAskedBoard f8 _ := ⟨D8, ok_asked_board D8 T c_MOST c_GREATEST o_is_whole⟩
  have o_wiped_of : Ok l.prog w K mg base CX0 1 "wiped_of" s_wiped_of ["board", "wiping"] spWipedOf f9 _ := ⟨D9, ok_wiped_of D9 T ⟩
  have o_wipings_of : Ok l.prog w K mg base CX0 1 "wipings_of" s_wipings_of ["many"] spWipingsOf f10 _ := ⟨D10, ok_wipings_of D10 T ⟩
  have o_ways_of : Ok l.prog w K mg base CX0 7 "ways_of" s_ways_of ["board", "known"] (spWaysOf 6) f11 _ := ⟨D11, ok_ways_of D11 T o_wiped_of o_wipings_of⟩
  have o_lasts : Ok l.prog w K mg base CX0 8 "lasts" s_lasts ["board"] spLasts f12 _ := ⟨D12, ok_lasts D12 T o_asked_board o_ways_of⟩
  have o_is_wiping : Ok l.prog w K mg base CX0 2 "is_wiping" s_is_wiping ["thing", "many"] spIsWiping f13 _ := ⟨D13, ok_is_wiping D13 T o_is_whole⟩
  have o_wiped : Ok l.prog w K mg base CX0 3 "wiped" s_wiped ["board", "wiping"] spWiped f14 _ := ⟨D14, ok_wiped D14 T o_asked_board o_is_wiping o_wiped_of⟩
  have o_asked_last : Ok l.prog w K mg base CX0 2 "asked_last" s_asked_last ["last"] spAskedLast f15 _ := ⟨D15, ok_asked_last D15 T o_is_whole⟩
  have o_how_many : Ok l.prog w K mg base CX0 8 "how_many" s_how_many ["board", "last"] spHowMany f16 _ := ⟨D16, ok_how_many D16 T o_asked_board o_asked_last o_ways_of⟩
  have o_led : Ok l.prog w K mg base CX0 8 "led" s_led ["board", "last"] (spLed CL CN) f17 _ := ⟨D17, ok_led D17 T A o_asked_board o_asked_last o_wiped_of o_wipings_of o_ways_of m_Led_init⟩
  have o_law_left : Ok l.prog w K mg base CX0 2 "_law_left" s_law_left ["_law_board_here", "_law_pairs_here"] spLeft f18 _ := ⟨D18, ok_law_left D18 T o_law_wiped⟩
  have o_law_due : Ok l.prog w K mg base CX0 3 "_law_due" s_law_due ["_law_board_here", "_law_last", "_law_answer"] (spLawDue CL CN) f19 _ := ⟨D19, ok_law_due D19 T A o_law_tally o_law_left⟩
  have o_boards_behind : Ok l.prog w K mg base CX0 3 "boards_behind" s_boards_behind ["board", "many"] spBoardsBehind f20 _ := ⟨D20, ok_boards_behind D20 T o_is_whole o_asked_board o_wiped_of o_wipings_of⟩
  have o_law_unlike : Ok l.prog w K mg base CX0 2 "_law_unlike" s_law_unlike ["_law_board_here", "_law_many"] spBoardsBehind f21 _ := ⟨D21, ok_law_unlike D21 T o_law_wiped o_law_pairs⟩
  have o_law_right : Ok l.prog w K mg base CX0 9 "_law_right" s_law_right ["_law_board_here", "_law_whole"] spRight8 f22 _ := ⟨D22, ok_law_right D22 T A o_law_tally o_lasts o_law_pairs o_wiped o_law_wiped o_how_many o_led o_law_due o_boards_behind o_law_unlike⟩
  have o_law_changed : Ok l.prog w K mg base CX0 1 "_law_changed" s_law_changed ["_law_board_here", "_law_whole", "_law_turn"] spLawChanged f23 _ := ⟨D23, ok_law_changed D23 T ⟩
  have o_left_behind : Ok l.prog w K mg base CX0 3 "left_behind" s_left_behind ["board", "wipings"] spLeft f24 _ := ⟨D24, ok_left_behind D24 T o_is_wiping o_wiped_of⟩
  have m_Led_shows : Me l.prog w K mg base CX0 4 CL "shows" "Led.shows" s_Led_shows ["self", "board", "last"] (spLedShows CL) f25 _ := ⟨D25, clL, ⟨a25, i25, k25⟩, ok_Led_shows D25 T A o_left_behind⟩
  have o_can_be : Ok l.prog w K mg base CX0 7 "can_be" s_can_be ["board", "last", "known"] (spCanBe 6) f26 _ := ⟨D26, ok_can_be D26 T o_wiped_of o_wipings_of⟩
  have m_Never_shows : Me l.prog w K mg base CX0 8 CN "shows" "Never.shows" s_Never_shows ["self", "board", "last"] spNeverShows f27 _ := ⟨D27, clN, ⟨a27, i27, k27⟩, ok_Never_shows D27 T o_can_be⟩
  exact ok_law D28 T A o_law_board o_law_right o_lasts o_led o_law_changed o_law_due m_Led_shows m_Never_shows
end Lw
open PySem PySem.W PyProof.Rows
set_option maxHeartbeats 0 in
theorem PySem.Challenge.cw_lastleft_k08_whole_anew_holds : PySem.Challenge.rw_lastleft_k08_whole_anew.Holds := by
  w_on; o_law; k_head; (case hw => w_witness2)
  k_fill
  refine L2.walk_ofB (l := PySem.Challenge.rw_lastleft_k08_whole_anew) (n := 63) (k := 10) (x := "_law_script") (CX := fun _ => L2.CX0) (sp := fun w => Lw.spLaw _) rfl (by decide) rfl ⟨rfl, by decide, by decide⟩ (fun w h Y => PySem.W.kIn_of Y) ?F (fun _ _ a ns hl hb _ hS => ⟨a, ns, rfl, ⟨hS, hl, hb⟩, fun _ _ => rfl⟩) (fun _ _ _ _ _ h => h)
  case F =>
    intro w mg fa h KX G hmg
    refine' Lw.all_mk KX G hmg ?aA ?aL ?aN ?pgL ?hdL ?poL ?saL ?mkL ?kcL ?haL ?hmL ?pgN ?hdN ?poN ?saN ?mkN ?kcN ?haN ?hmN ?hn ?htk ?inN ?nW ?icA ?tyA ?icL ?tyL ?icN ?tyN ?sLA ?sLN ?sNA ?sNL ?a1 ?i1 ?l1 ?e1 ?k1 ?a2 ?l2 ?e2 ?k2 ?a3 ?l3 ?e3 ?k3 ?a4 ?l4 ?e4 ?k4 ?a5 ?l5 ?e5 ?k5 ?a6 ?l6 ?e6 ?k6 ?a7 ?l7 ?e7 ?k7 ?a8 ?l8 ?e8 ?k8 ?a9 ?l9 ?e9 ?k9 ?a10 ?l10 ?e10 ?k10 ?a11 ?l11 ?e11 ?k11 ?a12 ?l12 ?e12 ?k12 ?a13 ?l13 ?e13 ?k13 ?a14 ?l14 ?e14 ?k14 ?a15 ?l15 ?e15 ?k15 ?a16 ?l16 ?e16 ?k16 ?a17 ?l17 ?e17 ?k17 ?a18 ?l18 ?e18 ?k18 ?a19 ?l19 ?e19 ?k19 ?a20 ?l20 ?e20 ?k20 ?a21 ?l21 ?e21 ?k21 ?a22 ?l22 ?e22 ?k22 ?a23 ?l23 ?e23 ?k23 ?a24 ?l24 ?e24 ?k24 ?a25 ?i25 ?l25 ?e25 ?k25 ?a26 ?l26 ?e26 ?k26 ?a27 ?i27 ?l27 ?e27 ?k27 ?a28 ?l28 ?e28 ?k28 ?zc_MOST ?zc_GREATEST ?z_isinstance ?z_int ?z_bool ?z_list ?z_tuple ?z_len ?z_all ?z_any ?z_abs ?z_sum ?z_max ?z_min ?z_sorted ?z_range ?z_enumerate
    (case aA => k_is); (case aL => k_is); (case aN => k_is); (case pgL => k_is); (case hdL => k_is); (case poL => k_is); (case saL => k_is); (case mkL => k_is)
    (case kcL => k_is); (case haL => k_is); (case hmL => k_is); (case pgN => k_is); (case hdN => k_is); (case poN => k_is); (case saN => k_is); (case mkN => k_is)
    (case kcN => k_is); (case haN => k_is); (case hmN => k_is); (case hn => k_is); (case htk => k_is); (case inN => k_is); (case nW => k_is); (case icA => k_is)
    (case tyA => k_is); (case icL => k_is); (case tyL => k_is); (case icN => k_is); (case tyN => k_is); (case sLA => k_is); (case sLN => k_is); (case sNA => k_is)
    (case sNL => k_is); (case a1 => k_is); (case i1 => k_is); (case l1 => k_is); (case e1 => k_is); (case k1 => k_is); (case a2 => k_is); (case l2 => k_is)
    (case e2 => k_is); (case k2 => k_is); (case a3 => k_is); (case l3 => k_is); (case e3 => k_is); (case k3 => k_is); (case a4 => k_is); (case l4 => k_is)
    (case e4 => k_is); (case k4 => k_is); (case a5 => k_is); (case l5 => k_is); (case e5 => k_is); (case k5 => k_is); (case a6 => k_is); (case l6 => k_is)
    (case e6 => k_is); (case k6 => k_is); (case a7 => k_is); (case l7 => k_is); (case e7 => k_is); (case k7 => k_is); (case a8 => k_is); (case l8 => k_is)
    (case e8 => k_is); (case k8 => k_is); (case a9 => k_is); (case l9 => k_is); (case e9 => k_is); (case k9 => k_is); (case a10 => k_is); (case l10 => k_is)
    (case e10 => k_is); (case k10 => k_is); (case a11 => k_is); (case l11 => k_is); (case e11 => k_is); (case k11 => k_is); (case a12 => k_is); (case l12 => k_is)
    (case e12 => k_is); (case k12 => k_is); (case a13 => k_is); (case l13 => k_is); (case e13 => k_is); (case k13 => k_is); (case a14 => k_is); (case l14 => k_is)
    (case e14 => k_is); (case k14 => k_is); (case a15 => k_is); (case l15 => k_is); (case e15 => k_is); (case k15 => k_is); (case a16 => k_is); (case l16 => k_is)
    (case e16 => k_is); (case k16 => k_is); (case a17 => k_is); (case l17 => k_is); (case e17 => k_is); (case k17 => k_is); (case a18 => k_is); (case l18 => k_is)
    (case e18 => k_is); (case k18 => k_is); (case a19 => k_is); (case l19 => k_is); (case e19 => k_is); (case k19 => k_is); (case a20 => k_is); (case l20 => k_is)
    (case e20 => k_is); (case k20 => k_is); (case a21 => k_is); (case l21 => k_is); (case e21 => k_is); (case k21 => k_is); (case a22 => k_is); (case l22 => k_is)
    (case e22 => k_is); (case k22 => k_is); (case a23 => k_is); (case l23 => k_is); (case e23 => k_is); (case k23 => k_is); (case a24 => k_is); (case l24 => k_is)
    (case e24 => k_is); (case k24 => k_is); (case a25 => k_is); (case i25 => k_is); (case l25 => k_is); (case e25 => k_is); (case k25 => k_is); (case a26 => k_is)
    (case l26 => k_is); (case e26 => k_is); (case k26 => k_is); (case a27 => k_is); (case i27 => k_is); (case l27 => k_is); (case e27 => k_is); (case k27 => k_is)
    (case a28 => k_is); (case l28 => k_is); (case e28 => k_is); (case k28 => k_is); (case zc_MOST => k_is); (case zc_GREATEST => k_is); (case z_isinstance => k_is); (case z_int => k_is)
    (case z_bool => k_is); (case z_list => k_is); (case z_tuple => k_is); (case z_len => k_is); (case z_all => k_is); (case z_any => k_is); (case z_abs => k_is); (case z_sum => k_is)
    (case z_max => k_is); (case z_min => k_is); (case z_sorted => k_is); (case z_range => k_is); (case z_enumerate => k_is)
