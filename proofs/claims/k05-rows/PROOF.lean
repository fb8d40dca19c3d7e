import PyProof.Rows.All
import Wide.All
import OpenK.AllK
import Wide.FinOn
import HandS.ForMost
import HandS.Evl
import HandS.IsInst
import HandS.Wide
import HandS.Conv
import HandS.SortInts
import HandS.SortRule
import HandS.Style
import HandS.EndBits
import HandS.Walk
import HandS.TupLen
import HandS.TupSets
import KE.KDictDisplayH
import PyProof.SeqIndex
import PySem.Challenge.RW_lastleft_k05_whole_rows
set_option Elab.async false
set_option linter.all false
set_option maxRecDepth 100000
set_option maxHeartbeats 4000000
/-! W0: words of our own over the hand layer. -/
namespace Lw
open PySem PySem.Spec PyProof.Rows L2 Evl

/-! ### rules that the layer lacks -/
section
variable {X : Cx}
/-- * of whole numbers of any size that the model can hold -/
theorem op_mulZ : OpR X (binaryOp .Mult) (rI IntMulOk fun i j => .int (i * j)) := opI fun _ _ _ _ _ _ _ hc q => mul_int q hc
def tChain3 (r r' r'' : R2) (ta tb tc td : TE) : TE := fun σ H Q => ta σ H fun x H1 => tb σ H1 fun y H2 => r x y H2 fun z H3 => ∃ k, z = .bl k ∧
  (if k = true then tc σ H3 fun y2 H4 => r' y y2 H4 fun z2 H5 => ∃ k2, z2 = .bl k2 ∧ (if k2 = true then td σ H5 fun y3 H6 => r'' y2 y3 H6 Q else Q (.bl false) H5) else Q (.bl false) H3)
theorem pe_chain3 {a b c d : Expr} {ta tb tc td : TE} {pos : Pos} {op op' op'' : CmpOp} {r r' r'' : R2} (ho : OpR X (compareOp op) r) (ho' : OpR X (compareOp op') r') (ho'' : OpR X (compareOp op'') r'') (ha : PE X a ta) (hb : PE X b tb) (hc : PE X c tc) (hd : PE X d td)
    (hm : lastMarks [op, op', op''] [b, c, d] = false := by with_unfolding_all rfl) : PE X (.Compare a [op, op', op''] [b, c, d] pos) (tChain3 r r' r'' ta tb tc td) := by
  refine ⟨fun pins s σ H Q I h => ?_⟩
  refine Compare_chain (thn (ha.run pins s σ H _ I h) fun v s1 ⟨x, H1, I1, r1, q1⟩ => chain_link (thn (hb.run pins s1 σ H1 _ I1 q1) fun u s2 ⟨y, H2, I2, r2, q2⟩ =>
    thn (ho pins s2 σ H2 x y v u _ I2 r1 r2 q2) fun d s3 ⟨z, H3, I3, r3, k, e, q3⟩ => ?_)) hm
  subst e
  cases r3
  refine wpAny_truthy_bool ?_
  cases k with
  | false => exact ite_ff ⟨.bl false, H3, I3, rfl, q3⟩
  | true =>
    refine ite_tt (chain_link (thn (hc.run pins s3 σ H3 _ I3 q3) fun w' s4 ⟨y2, H4, I4, r4, q4⟩ => thn (ho' pins s4 σ H4 y y2 u w' _ I4 r2 r4 q4) fun d' s5 ⟨z2, H5, I5, r5, k2, e2, q5⟩ => ?_))
    subst e2
    cases r5
    refine wpAny_truthy_bool ?_
    cases k2 with
    | false => exact ite_ff ⟨.bl false, H5, I5, rfl, q5⟩
    | true => exact ite_tt (chain_last (thn (hd.run pins s5 σ H5 _ I5 q5) fun w3 s6 ⟨y3, H6, I6, r6, q6⟩ => ho'' pins s6 σ H6 y2 y3 w' w3 Q I6 r4 r6 q6))
end

/-! ### a def of the text as it stands behind the top -/
structure Df (K : PySem.W.Frag) (mg : Str → Option Value) (x : Str) (st : Stmt) (ps : List Str) (f : Addr) (fd : FuncData) : Prop where
  F : Fun K x x st f fd
  b : Binds K fd ps []
  g : mg x = some (.ref f)

/-! ### what evaluates to what, by a word of the value -/
/-- te comes to a value of which R holds, all that was tracked is as it was. R: the heap at its start, the value, the heap behind -/
def EvX (te : TE) (σ : L2.St) (H : Hp) (R : Hp → V → Hp → Prop) : Prop := ∀ H1, Ex H H1 → ∀ Q : VK, (∀ v H2, Ex H1 H2 → R H1 v H2 → Q v H2) → te σ H1 Q
/-- a new list of these items -/
def NL (xs : List V) : Hp → V → Hp → Prop := fun H1 v H2 => ∃ p, v = .ref p ∧ H1 p = none ∧ H2 p = some (.lst xs)
def NU (xs : List V) : Hp → V → Hp → Prop := fun H1 v H2 => ∃ p, v = .ref p ∧ H1 p = none ∧ H2 p = some (.tup xs)
/-- a new dict -/
def ND (kvs : List (Key × V)) : Hp → V → Hp → Prop := fun H1 v H2 => ∃ p, v = .ref p ∧ H1 p = none ∧ H2 p = some (.dK kvs)
/-- pairs of whole numbers as they lie -/
def Prs (H : Hp) (vs : List V) (ps : List (Int × Int)) : Prop := Paired (fun (v : V) (p : Int × Int) => ∃ t, v = .ref t ∧ H t = some (.tup [.int p.1, .int p.2])) vs ps
/-- a new list of pairs -/
def NP (ps : List (Int × Int)) : Hp → V → Hp → Prop := fun H1 v H2 => ∃ p vs, v = .ref p ∧ H1 p = none ∧ H2 p = some (.lst vs) ∧ Prs H2 vs ps
theorem Prs.mono {H H' : Hp} (e : Ex H H') : ∀ {vs : List V} {ps : List (Int × Int)}, Prs H vs ps → Prs H' vs ps
  | _, _, .nil => .nil
  | _, _, .cons ⟨t, h1, h2⟩ r => .cons ⟨t, h1, e _ _ h2⟩ (Prs.mono e r)
theorem Prs.stay {H1 H2 : Hp} {D : Addr} {acc : List V} (hD : H1 D = some (.lst acc)) (hk : ∀ a o, a ≠ D → H1 a = some o → H2 a = some o) : ∀ {vs : List V} {ps : List (Int × Int)}, Prs H1 vs ps → Prs H2 vs ps
  | _, _, .nil => .nil
  | _, _, .cons ⟨t, h1, h2⟩ r => .cons ⟨t, h1, hk t _ (ne_of h2 hD (by intro z; cases z)) h2⟩ (Prs.stay hD hk r)
theorem Prs.len {H : Hp} : ∀ {vs : List V} {ps : List (Int × Int)}, Prs H vs ps → vs.length = ps.length
  | _, _, .nil => rfl
  | _, _, .cons _ r => by rw [List.length_cons, List.length_cons, Prs.len r]
theorem Prs.append {H : Hp} : ∀ {vs ws : List V} {ps qs : List (Int × Int)}, Prs H vs ps → Prs H ws qs → Prs H (vs ++ ws) (ps ++ qs)
  | _, _, _, _, .nil, s => s
  | _, _, _, _, .cons a r, s => .cons a (Prs.append r s)
theorem Prs.get {H : Hp} : ∀ {vs : List V} {ps : List (Int × Int)} {i : Nat} {v : V}, Prs H vs ps → vs[i]? = some v → ∃ p t, ps[i]? = some p ∧ v = .ref t ∧ H t = some (.tup [.int p.1, .int p.2])
  | _, _, _, _, .nil, e => by simp at e
  | _, _, 0, _, .cons ⟨t, h1, h2⟩ _, e => by
    rw [List.getElem?_cons_zero] at e
    cases e
    exact ⟨_, t, rfl, h1, h2⟩
  | _, _, i + 1, _, .cons _ r, e => by
    rw [List.getElem?_cons_succ] at e
    obtain ⟨p, t, h1, h2, h3⟩ := Prs.get r e
    exact ⟨p, t, by rw [List.getElem?_cons_succ]; exact h1, h2, h3⟩

section
variable {K : PySem.W.Frag} {σ : L2.St} {H H' : Hp} {ta tb te tx : TE} {t u : TT} {x y z v : V} {r : R2} {R : Hp → V → Hp → Prop}
theorem EvX.mono (e : Ex H H') (h : EvX te σ H R) : EvX te σ H' R := fun H1 a Q q => h H1 (e.trans a) Q q
theorem ex_v (h : Ev te σ H v) : EvX te σ H (fun _ w _ => w = v) := fun H1 e Q q => h H1 e Q fun H2 e2 => q v H2 e2 rfl
theorem ex_l' {xs : List V} (h : EvL te σ H xs) : EvX te σ H (NL xs) := fun H1 e Q q => h H1 e Q fun p H2 hp e2 h2 => q _ H2 e2 ⟨p, rfl, hp, h2⟩
theorem ev_x (h : EvX te σ H (fun _ w _ => w = v)) : Ev te σ H v := fun H1 e Q q => h H1 e Q fun w H2 e2 ew => by rw [ew]; exact q H2 e2
theorem el_x {xs : List V} (h : EvX te σ H (NL xs)) : EvL te σ H xs := fun H1 e Q q => h H1 e Q fun w H2 e2 ew => by
  obtain ⟨p, rfl, hp, h2⟩ := ew
  exact q p H2 hp e2 h2
/-- len of a list or tuple, list(..) of it -/
theorem ev_lenT {p : Addr} {xs : List V} (ha : Ev ta σ H (.ref p)) (h : SqT K H p xs) : Ev (tCB (rLenS K) (tCons ta tNil)) σ H (.int (xs.length : Int)) := fun H1 e Q q =>
  ha H1 e _ fun H2 e2 => ⟨p, xs, rfl, Or.inr (ex_t (e.trans e2) h), q H2 e2⟩
theorem el_listT {p : Addr} {xs : List V} (ha : Ev ta σ H (.ref p)) (h : SqT K H p xs) : EvL (tCB (rListS K) (tCons ta tNil)) σ H xs := fun H1 e Q q =>
  ha H1 e _ fun H2 e2 => ⟨p, xs, rfl, Or.inr (ex_t (e.trans e2) h), fun l hl => q l _ (fresh_back e2 hl) (e2.trans (Ex.new hl)) upd_same⟩
/-- xs + ys -/
theorem el_cat {xs ys : List V} {a : Addr} (ha : Ev ta σ H (.ref a)) (hx : H a = some (.lst xs)) (hb : EvL tb σ H ys) (hz : xs.length + ys.length ≤ 100000) : EvL (tOp rCat ta tb) σ H (xs ++ ys) := fun H1 e Q q =>
  ha H1 e _ fun H2 e2 => hb H2 (e.trans e2) _ fun b H3 _ e3 h3 => ⟨a, b, xs, ys, rfl, rfl, ((e.trans e2).trans e3) a _ hx, h3, sz_of hz, fun p hp => q p _ (fresh_back (e2.trans e3) hp) ((e2.trans e3).trans (Ex.new hp)) upd_same⟩
theorem el_catN {xs ys : List V} (ha : EvL ta σ H xs) (hb : EvL tb σ H ys) (hz : xs.length + ys.length ≤ 100000) : EvL (tOp rCat ta tb) σ H (xs ++ ys) := fun H1 e Q q =>
  ha H1 e _ fun a H2 _ e2 h2 => hb H2 (e.trans e2) _ fun b H3 _ e3 h3 => ⟨a, b, xs, ys, rfl, rfl, e3 a _ h2, h3, sz_of hz, fun p hp => q p _ (fresh_back (e2.trans e3) hp) ((e2.trans e3).trans (Ex.new hp)) upd_same⟩
/-- abs, sum -/
def rAbs : List V → Hp → VK → Prop := fun xs H Q => ∃ i, xs = [.int i] ∧ Q (.int (if i < 0 then -i else i)) H
theorem ev_abs {i : Int} (ha : Ev ta σ H (.int i)) : Ev (tCB rAbs (tCons ta tNil)) σ H (.int (i.natAbs : Int)) := fun H1 e Q q =>
  ha H1 e _ fun H2 e2 => ⟨i, rfl, by
    have e3 : (if i < 0 then -i else i) = (i.natAbs : Int) := by split <;> omega
    rw [e3]
    exact q H2 e2⟩
theorem ev_sum {p : Addr} {ns : List Int} (ha : Ev ta σ H (.ref p)) (h : SqL K H p (ns.map V.int)) : Ev (tCB (rSum K) (tCons ta tNil)) σ H (.int ns.sum) := fun H1 e Q q =>
  ha H1 e _ fun H2 e2 => ⟨p, ns, rfl, ex_l (e.trans e2) h, q H2 e2⟩
theorem ev_sumN {ns : List Int} (ha : EvL ta σ H (ns.map V.int)) : Ev (tCB (rSum K) (tCons ta tNil)) σ H (.int ns.sum) := fun H1 e Q q =>
  ha H1 e _ fun p H2 _ e2 h2 => ⟨p, ns, rfl, sq_of h2, q H2 e2⟩
/-- isinstance(x, T) -/
theorem ev_isi {x : V} {n m : String} {b : Bool} {ta tb : TE} (ha : Ev ta σ H x) (hb : Ev tb σ H (.ty n)) (hx : ∀ H1, Ex H H1 → TyX K H1 x (.type m)) (hk : kitB m n = some b) :
    Ev (tCB (rIsi K) (tCons ta (tCons tb tNil))) σ H (.bl b) := fun H1 e Q q =>
  ha H1 e _ fun H2 e2 => hb H2 (e.trans e2) _ fun H3 e3 => ⟨x, .ty n, .type m, .type n, b, rfl, .ty n, hx H3 ((e.trans e2).trans e3), kit_ty hk, q H3 (e2.trans e3)⟩
theorem ev_all {p : Addr} {bs : List Bool} (ha : EvL ta σ H (bs.map V.bl)) : Ev (tCB (rAll K) (tCons ta tNil)) σ H (.bl (bs.all id)) := fun H1 e Q q =>
  ha H1 e _ fun p H2 _ e2 h2 => ⟨p, bs, rfl, sq_of h2, q H2 e2⟩
theorem ev_any {bs : List Bool} (ha : EvL ta σ H (bs.map V.bl)) : Ev (tCB (rAny K) (tCons ta tNil)) σ H (.bl (bs.any id)) := fun H1 e Q q =>
  ha H1 e _ fun p H2 _ e2 h2 => ⟨p, bs, rfl, sq_of h2, q H2 e2⟩
end

/-! ### what is walked -/
/-- J stands still while the heap only grows: n turns, Y tells what each gives -/
def Wk (J : It) (H : Hp) (n : Nat) (Y : Nat → Hp → V → Hp → Prop) : Prop := ∃ G, Walk J n G Y ∧ ∀ H', Ex H H' → G H'
def EvI (wi : TI) (σ : L2.St) (H : Hp) (n : Nat) (S : (Nat → Hp → V → Hp → Prop) → Hp → Prop) : Prop := ∀ H1, Ex H H1 → ∀ R : It → Hp → Prop, (∀ J Y H2, Ex H1 H2 → Wk J H2 n Y → S Y H2 → R J H2) → wi σ H1 R
section
variable {K : PySem.W.Frag} {σ : L2.St} {H H' : Hp} {ta tb te tx : TE} {t u : TT} {x y z v : V} {wi : TI} {g : TG} {n : Nat} {vs : List Nat}
theorem ei_list {a : Addr} {xs : List V} (h : Ev ta σ H (.ref a)) (hx : SqL K H a xs) : EvI (iList K ta) σ H xs.length (fun Y _ => Y = YAt xs) := fun H1 e R k =>
  h H1 e _ fun H2 e2 => ⟨a, rfl, ⟨xs, ex_l (e.trans e2) hx⟩, k _ _ H2 e2 ⟨_, walk_list, fun _ e3 => ex_l ((e.trans e2).trans e3) hx⟩ rfl⟩
theorem ei_new {xs : List V} (h : EvL ta σ H xs) : EvI (iList K ta) σ H xs.length (fun Y _ => Y = YAt xs) := fun H1 e R k =>
  h H1 e _ fun p H2 _ e2 hp => ⟨p, rfl, ⟨xs, sq_of hp⟩, k _ _ H2 e2 ⟨_, walk_list, fun _ e3 => sq_of (e3 p _ hp)⟩ rfl⟩
theorem ei_pairs {ps : List (Int × Int)} (h : EvX ta σ H (NP ps)) : EvI (iList K ta) σ H ps.length (fun Y H2 => ∃ xs, Y = YAt xs ∧ Prs H2 xs ps) := fun H1 e R k =>
  h H1 e _ fun v H2 e2 hv => by
    obtain ⟨p, xs, rfl, _, hp, hr⟩ := hv
    refine ⟨p, rfl, ⟨xs, sq_of hp⟩, k _ _ H2 e2 ⟨fun H => SqL K H p xs, ?_, fun _ e3 => sq_of (e3 p _ hp)⟩ ⟨xs, rfl, hr⟩⟩
    rw [← hr.len]
    exact walk_list
theorem ei_tup {a : Addr} {xs : List V} (h : Ev ta σ H (.ref a)) (hx : SqT K H a xs) : EvI (iTup K ta) σ H xs.length (fun Y _ => Y = YAt xs) := fun H1 e R k =>
  h H1 e _ fun H2 e2 => ⟨a, rfl, ⟨xs, ex_t (e.trans e2) hx⟩, k _ _ H2 e2 ⟨_, walk_tup, fun _ e3 => ex_t ((e.trans e2).trans e3) hx⟩ rfl⟩
theorem ei_enum {a : Addr} {xs : List V} {ta : TA} (h : EvA ta σ H [.ref a]) (hx : SqL K H a xs) : EvI (iEnum K ta) σ H xs.length (fun Y _ => Y = YPair (fun i => some (.int (i : Nat))) (fun i => xs[i]?)) := fun H1 e R k =>
  h H1 e _ fun H2 e2 => ⟨a, xs, rfl, ex_l (e.trans e2) hx, k _ _ H2 e2 ⟨_, walk_enum, fun _ e3 => ex_l ((e.trans e2).trans e3) hx⟩ rfl⟩
theorem ei_r1 {ta : TA} {m : Int} (h : EvA ta σ H [.int m]) (hm : 0 ≤ m ∧ m ≤ 100000) : EvI (iRng1 ta) σ H m.toNat (fun Y _ => Y = YFn fun i => .int (i : Nat)) := fun H1 e R k =>
  have e0 : (fun i : Nat => V.int ((0 : Int) + (i : Nat))) = fun i : Nat => V.int (i : Nat) := funext fun i => by rw [Int.zero_add]
  have w : Walk (Itr 0 m.toNat) m.toNat (fun _ => True) (YFn fun i => .int (i : Nat)) := e0 ▸ walk_range
  h H1 e _ fun H2 e2 => ⟨m, rfl, by omega, by omega, k _ _ H2 e2 ⟨_, w, fun _ _ => trivial⟩ rfl⟩
theorem ei_r2 {ta : TA} {lo m : Int} (h : EvA ta σ H [.int lo, .int m]) (hm : -100000 ≤ lo ∧ lo ≤ 100000 ∧ -100000 ≤ m ∧ m ≤ 100000) : EvI (iRng2 ta) σ H (m - lo).toNat (fun Y _ => Y = YFn fun i => .int (lo + (i : Nat))) := fun H1 e R k =>
  h H1 e _ fun H2 e2 => ⟨lo, m, rfl, ⟨by omega, by omega, by omega, by omega⟩, k _ _ H2 e2 ⟨_, walk_range, fun _ _ => trivial⟩ rfl⟩

/-! ### comprehensions -/
/-- Pv is a word of the list's place D, the turn, the items so far, the heap; it stands while all but D is as it was -/
theorem ex_lc {S : (Nat → Hp → V → Hp → Prop) → Hp → Prop} (Pv : Addr → Nat → List V → Hp → Prop) (h : EvI wi σ H n S) (hn : n ≤ 15000000)
    (mono : ∀ D i acc acc' H1 H2, H1 D = some (.lst acc') → (∀ a o, a ≠ D → H1 a = some o → H2 a = some o) → Pv D i acc H1 → Pv D i acc H2)
    (h0 : ∀ D Y H0 H1, Ex H H0 → S Y H0 → Ex H0 H1 → H0 D = none → Pv D 0 [] H1)
    (step : ∀ D Y H0 i x acc H1 H2, Ex H H0 → S Y H0 → Ex H0 H1 → i < n → H1 D = some (.lst acc) → Pv D i acc H1 → Y i H1 x H2 →
      g x (wipe σ vs) H2 fun σ2 H3 => wipe σ2 vs = wipe σ vs ∧ Ex H1 H3 ∧ ∃ b, EvT t σ2 H3 b ∧ (b = false → ∀ H4, Ex H3 H4 → Pv D (i + 1) acc H4) ∧ (b = true → ∀ H4, Ex H3 H4 → EvX te σ2 H4 (fun _ y H5 => Pv D (i + 1) (acc ++ [y]) H5)))
    (gm : ∀ x σ' H' (Q Q' : L2.St → Hp → Prop), (∀ σ2 H2, Q σ2 H2 → Q' σ2 H2) → g x σ' H' Q → g x σ' H' Q') :
    EvX (tLc wi g t te vs) σ H (fun H1 v H2 => ∃ p acc, v = .ref p ∧ H1 p = none ∧ H2 p = some (.lst acc) ∧ acc.length ≤ n ∧ Pv p n acc H2) := fun Hs es Q q => by
  refine h Hs es _ fun J Y H0 e0 hw hS => ?_
  obtain ⟨G, w, hG⟩ := hw
  intro D hD
  have eD : Ex H0 (upd H0 D (.lst [])) := Ex.new hD
  refine lc_it w (fun i H' => Ex H0 H' ∧ ∃ acc, H' D = some (.lst acc) ∧ acc.length ≤ i ∧ Pv D i acc H')
    ⟨eD, [], upd_same, Nat.zero_le _, h0 D Y H0 _ (es.trans e0) hS eD hD⟩ (fun i H' _ p => hG H' p.1) (fun i x H1 H2 hi p y => ?_) (fun H' p => ?_)
  · obtain ⟨e1, acc, ha, hl, hp⟩ := p
    refine gm _ _ _ _ _ (fun σ2 H3 k => ?_) (step D Y H0 i x acc H1 H2 (es.trans e0) hS e1 hi ha hp y)
    obtain ⟨k1, k2, b, k3, k4, k5⟩ := k
    refine ⟨k1, k3 H3 (Ex.refl _) _ fun H4 e4 => ?_⟩
    cases b with
    | false => exact ⟨(e1.trans k2).trans e4, acc, e4 _ _ (k2 _ _ ha), by omega, k4 rfl H4 e4⟩
    | true =>
      refine k5 rfl H4 e4 H4 (Ex.refl _) _ fun v H5 e5 hv => ?_
      have h5 : H5 D = some (.lst acc) := e5 _ _ (e4 _ _ (k2 _ _ ha))
      refine ⟨acc, h5, Nat.lt_of_lt_of_le (show acc.length < 16000000 by omega) (by decide), Ex.mut ((((e1.trans k2).trans e4).trans e5)) hD, acc ++ [v], upd_same, by rw [List.length_append, List.length_singleton]; omega, ?_⟩
      exact mono D (i + 1) (acc ++ [v]) acc H5 _ h5 (fun a o na ho => by rw [upd_ne na]; exact ho) hv
  · obtain ⟨e1, acc, ha, hl, hp⟩ := p
    exact q _ H' (e0.trans e1) ⟨D, acc, rfl, fresh_back e0 hD, ha, hl, hp⟩
theorem gm_name {j : Nat} : ∀ x σ' H' (Q Q' : L2.St → Hp → Prop), (∀ σ2 H2, Q σ2 H2 → Q' σ2 H2) → gName j x σ' H' Q → gName j x σ' H' Q' := fun _ _ _ _ _ f h => f _ _ h
theorem gm_two {i j : Nat} : ∀ x σ' H' (Q Q' : L2.St → Hp → Prop), (∀ σ2 H2, Q σ2 H2 → Q' σ2 H2) → gTup K 2 (gCons (gName i) (gCons (gName j) gNil)) x σ' H' Q → gTup K 2 (gCons (gName i) (gCons (gName j) gNil)) x σ' H' Q' := fun _ _ _ _ _ f h => by
  obtain ⟨a, xs, e1, e2, e3, v, r, e4, v2, r2, e5, e6, q⟩ := h
  exact ⟨a, xs, e1, e2, e3, v, r, e4, v2, r2, e5, e6, f _ _ q⟩
/-- the target a pair of names, the item a new pair -/
theorem g_two {i j : Nat} {T : Addr} {v w : V} {H1 H2 : Hp} {Q : L2.St → Hp → Prop} (h : H2 T = some (.tup [v, w])) (k : Q ((σ.set i (some v)).set j (some w)) H2) : gTup K 2 (gCons (gName i) (gCons (gName j) gNil)) (.ref T) σ H2 Q :=
  ⟨T, [v, w], rfl, st_of h, rfl, v, [w], rfl, w, [], rfl, rfl, k⟩
/-- exact items -/
theorem el_lcV {Y0 : Nat → Hp → V → Hp → Prop} (f : Nat → Bool) (vv : Nat → V) (h : EvI wi σ H n (fun Y _ => Y = Y0)) (hn : n ≤ 15000000)
    (step : ∀ i x H1 H2, Ex H H1 → i < n → Y0 i H1 x H2 → g x (wipe σ vs) H2 fun σ2 H3 => wipe σ2 vs = wipe σ vs ∧ Ex H1 H3 ∧ EvT t σ2 H3 (f i) ∧ (f i = true → Ev te σ2 H3 (vv i)))
    (gm : ∀ x σ' H' (Q Q' : L2.St → Hp → Prop), (∀ σ2 H2, Q σ2 H2 → Q' σ2 H2) → g x σ' H' Q → g x σ' H' Q') : EvL (tLc wi g t te vs) σ H (given n f vv) := by
  refine el_x fun H1 e1 Q q => ex_lc (fun _ i acc _ => acc = given i f vv) h hn (fun _ _ _ _ _ _ _ _ p => p) (fun _ _ _ _ _ _ _ _ => rfl) (fun D Y H0 i x acc H1 H2 e0 hS e1 hi ha hp y => ?_) gm H1 e1 Q fun v H2 e2 hv => ?_
  · subst hS hp
    refine gm _ _ _ _ _ (fun σ2 H3 k => ?_) (step i x H1 H2 (e0.trans e1) hi y)
    obtain ⟨k1, k2, k3, k4⟩ := k
    refine ⟨k1, k2, f i, k3, fun hf H4 e4 => (given_no hf).symm, fun hf H4 e4 => ?_⟩
    exact fun H5 e5 Q' q' => k4 hf H5 (e4.trans e5) Q' fun H6 e6 => q' _ H6 e6 (given_yes hf).symm
  · obtain ⟨p, acc, rfl, hp, h2, _, rfl⟩ := hv
    exact q _ H2 e2 ⟨p, rfl, hp, h2⟩
/-- items that are new pairs -/
theorem ep_lcP {Y0 : Nat → Hp → V → Hp → Prop} (f : Nat → Bool) (pp : Nat → Int × Int) (h : EvI wi σ H n (fun Y _ => Y = Y0)) (hn : n ≤ 15000000)
    (step : ∀ i x H1 H2, Ex H H1 → i < n → Y0 i H1 x H2 → g x (wipe σ vs) H2 fun σ2 H3 => wipe σ2 vs = wipe σ vs ∧ Ex H1 H3 ∧ EvT t σ2 H3 (f i) ∧ (f i = true → EvU te σ2 H3 [.int (pp i).1, .int (pp i).2]))
    (gm : ∀ x σ' H' (Q Q' : L2.St → Hp → Prop), (∀ σ2 H2, Q σ2 H2 → Q' σ2 H2) → g x σ' H' Q → g x σ' H' Q') : EvX (tLc wi g t te vs) σ H (NP (((List.range n).filter f).map pp)) := by
  refine fun H1 e1 Q q => ex_lc (fun _ i acc H' => Prs H' acc (((List.range i).filter f).map pp)) h hn (fun D i acc acc' H1 H2 hD hk p => ?_) (fun _ _ _ _ _ _ _ _ => .nil) (fun D Y H0 i x acc H1 H2 e0 hS e1 hi ha hp y => ?_) gm H1 e1 Q fun v H2 e2 hv => ?_
  · exact p.stay hD hk
  · subst hS
    refine gm _ _ _ _ _ (fun σ2 H3 k => ?_) (step i x H1 H2 (e0.trans e1) hi y)
    obtain ⟨k1, k2, k3, k4⟩ := k
    refine ⟨k1, k2, f i, k3, fun hf H4 e4 => ?_, fun hf H4 e4 => ?_⟩
    · rw [List.range_succ, List.filter_append, List.filter_cons, if_neg (by rw [hf]; decide), List.filter_nil, List.append_nil]
      exact hp.mono (k2.trans e4)
    · refine fun H5 e5 Q' q' => k4 hf H5 (e4.trans e5) Q' fun p H6 hp6 e6 h6 => q' _ H6 e6 ?_
      rw [List.range_succ, List.filter_append, List.filter_cons, if_pos hf, List.filter_nil, List.map_append]
      exact (hp.mono (((k2.trans e4).trans e5).trans e6)).append (.cons ⟨p, rfl, h6⟩ .nil)
  · obtain ⟨p, acc, rfl, hp, h2, _, hv⟩ := hv
    exact q _ H2 e2 ⟨p, acc, rfl, hp, h2, hv⟩

/-! ### for over enumerate -/
variable {D : Ends} {tu tz : TS}
theorem s_forEn {a : Addr} {xs : List V} {ta : TA} {j1 j2 : Nat} (h : EvA ta σ H [.ref a]) (hx : SqL K H a xs) (Pv : Nat → L2.St → Hp → Prop) (h0 : ∀ H1, Ex H H1 → Pv 0 σ H1) (hl : ∀ i σ' H', i ≤ xs.length → Pv i σ' H' → SqL K H' a xs)
    (hs : ∀ i x σ' H' H2, xs[i]? = some x → Pv i σ' H' → Ex H' H2 → tu { D with nx := Pv (i + 1), ct := Pv (i + 1), bk := D.nx } ((σ'.set j1 (some (.int (i : Nat)))).set j2 (some x)) H2) (hd : ∀ σ' H', Pv xs.length σ' H' → D.nx σ' H') :
    tFor (iEnum K ta) (gTup K 2 (gCons (gName j1) (gCons (gName j2) gNil))) tu D σ H :=
  h H (Ex.refl H) _ fun H1 e => ⟨a, xs, rfl, ex_l e hx, for_it walk_enum Pv (h0 H1 e) hl (fun i x σ' H' H2 hi p y => by
    obtain ⟨T, v, w, rfl, hT, rfl, e1, e2⟩ := y
    cases e1
    exact g_two (H1 := H') upd_same (hs i w σ' H' _ e2 p (Ex.new hT))) hd⟩
theorem q_forEn {a : Addr} {xs : List V} {ta : TA} {j1 j2 : Nat} (h : EvA ta σ H [.ref a]) (hx : SqL K H a xs) (Pv : Nat → L2.St → Hp → Prop) (h0 : ∀ H1, Ex H H1 → Pv 0 σ H1) (hl : ∀ i σ' H', i ≤ xs.length → Pv i σ' H' → SqL K H' a xs)
    (hs : ∀ i x σ' H' H2, xs[i]? = some x → Pv i σ' H' → Ex H' H2 → tu { D with nx := Pv (i + 1), ct := Pv (i + 1), bk := tz D } ((σ'.set j1 (some (.int (i : Nat)))).set j2 (some x)) H2) (hd : ∀ σ' H', Pv xs.length σ' H' → tz D σ' H') :
    tSeq (tFor (iEnum K ta) (gTup K 2 (gCons (gName j1) (gCons (gName j2) gNil))) tu) tz D σ H := s_forEn (D := { D with nx := tz D }) h hx Pv h0 hl hs hd
/-- assignments of a value told by a word -/
theorem s_asgX {R : Hp → V → Hp → Prop} {i : Nat} (h : EvX te σ H R) (k : ∀ v H1, Ex H H1 → R H v H1 → D.nx (σ.set i (some v)) H1) : tAsg te (gName i) D σ H := h H (Ex.refl H) _ fun v H1 e r => k v H1 e r
theorem q_asgX {R : Hp → V → Hp → Prop} {i : Nat} (h : EvX te σ H R) (k : ∀ v H1, Ex H H1 → R H v H1 → tz D (σ.set i (some v)) H1) : tSeq (tAsg te (gName i)) tz D σ H := s_asgX (D := { D with nx := tz D }) h k
theorem s_retX {R : Hp → V → Hp → Prop} (h : EvX te σ H R) (k : ∀ v H1, Ex H H1 → R H v H1 → D.rt v H1) : tRet te D σ H := h H (Ex.refl H) _ fun v H1 e r => k v H1 e r
/-- a, b = a pair -/
theorem q_asg2 {i j : Nat} {T : Addr} {v w : V} (h : Ev te σ H (.ref T)) (hT : SqT K H T [v, w]) (k : ∀ H1, Ex H H1 → tz D ((σ.set i (some v)).set j (some w)) H1) : tSeq (tAsg te (gTup K 2 (gCons (gName i) (gCons (gName j) gNil)))) tz D σ H :=
  h H (Ex.refl H) _ fun H1 e => ⟨T, [v, w], rfl, ex_t e hT, rfl, v, [w], rfl, w, [], rfl, rfl, k H1 e⟩
end

/-! ### data with a Lean type: == told by the values -/
class Dt (α : Type) [DecidableEq α] where
  toD : α → PyData
  lay : ∀ a, (toD a).canLay0 = true
  eqv : ∀ a b, PyData.eqv (toD a) (toD b) = decide (a = b)
  dep : Nat
  dep_le : ∀ a, (toD a).depth ≤ dep
theorem beq_dec {α : Type} [BEq α] [LawfulBEq α] [DecidableEq α] (a b : α) : (a == b) = decide (a = b) := by
  rw [Bool.eq_iff_iff, beq_iff_eq, decide_eq_true_eq]
instance : Dt Int where
  toD := .int
  lay _ := rfl
  eqv a b := by simp only [PyData.eqv]; exact beq_dec a b
  dep := 0
  dep_le _ := Nat.le_refl _
instance : Dt Bool where
  toD := .bool
  lay _ := rfl
  eqv a b := by simp only [PyData.eqv]; exact beq_dec a b
  dep := 0
  dep_le _ := Nat.le_refl _
section
variable {α β : Type} [DecidableEq α] [Dt α] [DecidableEq β] [Dt β]
theorem layAll_map : ∀ xs : List α, PyData.canLayAll0 (xs.map Dt.toD) = true
  | [] => rfl
  | x :: xs => by
    rw [List.map_cons, PyData.canLayAll0, Dt.lay x, layAll_map xs]
    rfl
theorem depAll_map : ∀ xs : List α, PyData.depthAll (xs.map Dt.toD) ≤ Dt.dep α
  | [] => Nat.zero_le _
  | x :: xs => by
    rw [List.map_cons, PyData.depthAll]
    exact Nat.max_le.mpr ⟨Dt.dep_le x, depAll_map xs⟩
theorem eqvAll_map' : ∀ xs ys : List α, PyData.eqvAll (xs.map Dt.toD) (ys.map Dt.toD) = decide (xs = ys)
  | [], [] => by simp only [List.map_nil, PyData.eqvAll, decide_true]
  | [], _ :: _ => by simp [PyData.eqvAll]
  | _ :: _, [] => by simp [PyData.eqvAll]
  | x :: xs, y :: ys => by
    rw [List.map_cons, List.map_cons, PyData.eqvAll, Dt.eqv x y, eqvAll_map' xs ys, ← Bool.decide_and]
    exact decide_eq_decide.mpr (by rw [List.cons.injEq])
instance : Dt (List α) where
  toD xs := .list (xs.map Dt.toD)
  lay xs := by simp only [PyData.canLay0]; exact layAll_map xs
  eqv xs ys := by simp only [PyData.eqv]; exact eqvAll_map' xs ys
  dep := Dt.dep α + 1
  dep_le xs := by simp only [PyData.depth]; exact Nat.succ_le_succ (depAll_map xs)
instance : Dt (α × β) where
  toD p := .tuple [Dt.toD p.1, Dt.toD p.2]
  lay p := by simp only [PyData.canLay0, PyData.canLayAll0, Dt.lay, Bool.and_self]
  eqv p q := by
    simp only [PyData.eqv, PyData.eqvAll]
    rw [Dt.eqv, Dt.eqv, Bool.and_true, ← Bool.decide_and]
    exact decide_eq_decide.mpr ⟨fun e => Prod.ext e.1 e.2, fun e => by rw [e]; exact ⟨rfl, rfl⟩⟩
  dep := max (Dt.dep α) (Dt.dep β) + 1
  dep_le p := by
    simp only [PyData.depth, PyData.depthAll]
    refine Nat.succ_le_succ (Nat.max_le.mpr ⟨Nat.le_trans (Dt.dep_le p.1) (Nat.le_max_left _ _), Nat.max_le.mpr ⟨Nat.le_trans (Dt.dep_le p.2) (Nat.le_max_right _ _), Nat.zero_le _⟩⟩)
theorem shaped_dt (h : Dt.dep α ≤ 64) (x : α) : SeqAt.shaped (Dt.toD x) = true := by
  unfold SeqAt.shaped
  rw [Dt.lay x, Bool.true_and]
  exact decide_eq_true (Nat.le_trans (Dt.dep_le x) h)
/-- v holds x in H -/
def At (K : PySem.W.Frag) (H : Hp) (v : V) (x : α) : Prop := Dp K H v (Dt.toD x)
variable {K : PySem.W.Frag} {H H' : Hp} {σ : L2.St} {te ta tb : TE}
mutual
theorem dp_mono (e : Ex H H') : ∀ (d : PyData) (v : V), Dp K H v d → Dp K H' v d
  | _, _, .non => .non
  | _, _, .bl b => .bl b
  | _, _, .int i => .int i
  | _, _, .str x => .str x
  | _, _, .lst h r => .lst (ex_l e h) (dpAll_mono e _ _ r)
  | _, _, .tup h r => .tup (ex_t e h) (dpAll_mono e _ _ r)
theorem dpAll_mono (e : Ex H H') : ∀ (ds : List PyData) (vs : List V), DpAll K H vs ds → DpAll K H' vs ds
  | _, _, .nil => .nil
  | _, _, .cons h r => .cons (dp_mono e _ _ h) (dpAll_mono e _ _ r)
end
theorem At.mono {v : V} {x : α} (e : Ex H H') (h : At K H v x) : At K H' v x := dp_mono e _ _ h
theorem at_int (i : Int) : At K H (.int i) i := .int i
theorem at_bl (b : Bool) : At K H (.bl b) b := .bl b
theorem dp_ints : ∀ ns : List Int, DpAll K H (ns.map V.int) (ns.map PyData.int)
  | [] => .nil
  | n :: ns => .cons (.int n) (dp_ints ns)
theorem at_ints {p : Addr} {ns : List Int} (h : SqL K H p (ns.map V.int)) : At K H (.ref p) ns := .lst h (dp_ints ns)
theorem at_intsH {p : Addr} {ns : List Int} (h : H p = some (.lst (ns.map V.int))) : At K H (.ref p) ns := at_ints (sq_of h)
theorem at_pair {p : Addr} {i j : Int} (h : H p = some (.tup [.int i, .int j])) : At K H (.ref p) (i, j) := .tup (st_of h) (.cons (.int i) (.cons (.int j) .nil))
theorem dp_prs : ∀ {vs : List V} {ps : List (Int × Int)}, Prs H vs ps → DpAll K H vs (ps.map Dt.toD)
  | _, _, .nil => .nil
  | _, _, .cons ⟨t, e, h⟩ r => by
    subst e
    exact .cons (at_pair h) (dp_prs r)
theorem at_prs {p : Addr} {vs : List V} {ps : List (Int × Int)} (h : H p = some (.lst vs)) (r : Prs H vs ps) : At K H (.ref p) ps := .lst (sq_of h) (dp_prs r)
/-- x evaluates to a thing that holds a datum -/
def EvD (K : PySem.W.Frag) (te : TE) (σ : L2.St) (H : Hp) (x : α) : Prop := EvX te σ H (fun _ v H2 => At K H2 v x)
theorem ed_v {v : V} {x : α} (h : Ev te σ H v) (a : At K H v x) : EvD K te σ H x := fun H1 e Q q => h H1 e Q fun H2 e2 => q v H2 e2 (a.mono (e.trans e2))
theorem ed_int {i : Int} (h : Ev te σ H (.int i)) : EvD K te σ H i := ed_v h (at_int i)
theorem ed_bl {b : Bool} (h : Ev te σ H (.bl b)) : EvD K te σ H b := ed_v h (at_bl b)
theorem ed_l {ns : List Int} (h : EvL te σ H (ns.map V.int)) : EvD K te σ H ns := fun H1 e Q q => h H1 e Q fun p H2 _ e2 hp => q _ H2 e2 (at_intsH hp)
theorem ed_p {ps : List (Int × Int)} (h : EvX te σ H (NP ps)) : EvD K te σ H ps := fun H1 e Q q => h H1 e Q fun v H2 e2 hv => by
  obtain ⟨p, vs, rfl, _, hp, hr⟩ := hv
  exact q _ H2 e2 (at_prs hp hr)
theorem ed_u {i j : Int} (h : EvU te σ H [.int i, .int j]) : EvD K te σ H (i, j) := fun H1 e Q q => h H1 e Q fun p H2 _ e2 hp => q _ H2 e2 (at_pair hp)
theorem ev_eqD {x y : α} (ha : EvD K ta σ H x) (hb : EvD K tb σ H y) (hd : Dt.dep α ≤ 64 := by decide) : Ev (tOp (rEqD K) ta tb) σ H (.bl (decide (x = y))) := fun H1 e Q q =>
  ha H1 e _ fun v H2 e2 a => hb H2 (e.trans e2) _ fun w H3 e3 b => ⟨_, _, a.mono e3, b, shaped_dt hd x, shaped_dt hd y, by rw [Dt.eqv]; exact q H3 (e2.trans e3)⟩
theorem ev_neD {x y : α} (ha : EvD K ta σ H x) (hb : EvD K tb σ H y) (hd : Dt.dep α ≤ 64 := by decide) : Ev (tOp (rNeD K) ta tb) σ H (.bl (!decide (x = y))) := fun H1 e Q q =>
  ha H1 e _ fun v H2 e2 a => hb H2 (e.trans e2) _ fun w H3 e3 b => ⟨_, _, a.mono e3, b, shaped_dt hd x, shaped_dt hd y, by rw [Dt.eqv]; exact q H3 (e2.trans e3)⟩
end
/-! ### chains -/
section
variable {K : PySem.W.Frag} {σ : L2.St} {H H' : Hp} {ta tb tc td : TE} {x y z w : V} {r r' r'' : R2}
theorem ev_chain {a b : Bool} (ha : Ev ta σ H x) (hb : Ev tb σ H y) (hc : Ev tc σ H z) (h1 : RV r x y H (.bl a)) (h2 : RV r' y z H (.bl b)) : Ev (tChain r r' ta tb tc) σ H (.bl (a && b)) := fun H1 e Q q =>
  ha H1 e _ fun H2 e2 => hb H2 (e.trans e2) _ fun H3 e3 => h1 H3 ((e.trans e2).trans e3) _ fun H4 e4 => ⟨a, rfl, by
    cases a with
    | false => exact q H4 ((e2.trans e3).trans e4)
    | true => exact hc H4 (((e.trans e2).trans e3).trans e4) _ fun H5 e5 => h2 H5 ((((e.trans e2).trans e3).trans e4).trans e5) _ fun H6 e6 => q H6 ((((e2.trans e3).trans e4).trans e5).trans e6)⟩
theorem ev_chain3 {a b c : Bool} (ha : Ev ta σ H x) (hb : Ev tb σ H y) (hc : Ev tc σ H z) (hd : Ev td σ H w) (h1 : RV r x y H (.bl a)) (h2 : RV r' y z H (.bl b)) (h3 : RV r'' z w H (.bl c)) : Ev (tChain3 r r' r'' ta tb tc td) σ H (.bl (a && (b && c))) := fun H1 e Q q =>
  ha H1 e _ fun H2 e2 => hb H2 (e.trans e2) _ fun H3 e3 => h1 H3 ((e.trans e2).trans e3) _ fun H4 e4 => ⟨a, rfl, by
    cases a with
    | false => exact q H4 ((e2.trans e3).trans e4)
    | true =>
      refine hc H4 (((e.trans e2).trans e3).trans e4) _ fun H5 e5 => h2 H5 ((((e.trans e2).trans e3).trans e4).trans e5) _ fun H6 e6 => ⟨b, rfl, ?_⟩
      have e7 : Ex H1 H6 := (((e2.trans e3).trans e4).trans e5).trans e6
      cases b with
      | false => exact q H6 e7
      | true => exact hd H6 (e.trans e7) _ fun H8 e8 => h3 H8 ((e.trans e7).trans e8) _ fun H9 e9 => q H9 ((e7.trans e8).trans e9)⟩
end

/-! ### a def with its promise; the names of the built-ins -/
structure Ok (P : Program) (w : World) (K : PySem.W.Frag) (mg : Str → Option Value) (base : Heap) (CX : CXT) (k : Nat) (x : Str) (st : Stmt) (ps : List Str) (sp : Sp) (f : Addr) (fd : FuncData) : Prop where
  D : Df K mg x st ps f fd
  G : FnOk P w K mg base CX k f fd ps sp
structure Blt (mg : Str → Option Value) : Prop where
  isinstance : mg "isinstance" = none
  int : mg "int" = none
  bool : mg "bool" = none
  list : mg "list" = none
  tuple : mg "tuple" = none
  len : mg "len" = none
  all : mg "all" = none
  any : mg "any" = none
  abs : mg "abs" = none
  sum : mg "sum" = none
  max : mg "max" = none
  min : mg "min" = none
  sorted : mg "sorted" = none
  range : mg "range" = none
  enumerate : mg "enumerate" = none

section
variable {K : PySem.W.Frag} {σ : L2.St} {H H' : Hp}
theorem ev_is' {r : R2} {x y z w : V} (h : RV r x y H z) (e : z = w) : RV r x y H w := by
  rw [← e]
  exact h
theorem el_is {te : TE} {xs ys : List V} (h : EvL te σ H xs) (e : xs = ys) : EvL te σ H ys := by
  rw [← e]
  exact h
theorem et_yes : EvT tYes σ H true := fun H1 _ _ q => q H1 (Ex.refl H1)
theorem given_bl {n : Nat} {b : Nat → Bool} : given n (fun _ => true) (fun i => .bl (b i)) = ((List.range n).map b).map V.bl := by
  unfold given
  rw [List.filter_eq_self.mpr (fun _ _ => rfl), List.map_map]
  rfl
theorem all_range {n : Nat} {b : Nat → Bool} (h : ∀ i, i < n → b i = true) : ((List.range n).map b).all id = true := by
  rw [List.all_map, List.all_eq_true]
  exact fun i hi => h i (List.mem_range.mp hi)
theorem any_range {n : Nat} {b : Nat → Bool} (h : ∀ i, i < n → b i = false) : ((List.range n).map b).any id = false := by
  rw [List.any_map, List.any_eq_false]
  exact fun i hi => by simp [h i (List.mem_range.mp hi)]
theorem int_at {ns : List Int} {i : Nat} {x : V} (h : (ns.map V.int)[i]? = some x) : ∃ n, ns[i]? = some n ∧ x = .int n := by
  rw [List.getElem?_map] at h
  cases e : ns[i]? with
  | none => rw [e] at h; cases h
  | some n =>
    rw [e] at h
    cases h
    exact ⟨n, rfl, rfl⟩
theorem at_int_i {ns : List Int} {i : Int} (h0 : 0 ≤ i) (h1 : i < ns.length) : atI (ns.map V.int) i = some (.int (ns.getD i.toNat 0)) := by
  refine at_of (j := i.toNat) (by omega) ?_
  rw [List.getElem?_map, List.getElem?_eq_getElem (by omega)]
  rw [List.getD_eq_getElem?_getD, List.getElem?_eq_getElem (by omega)]
  rfl
end
/-- a board: one to six numbers from 0 to a million -/
structure Board (ns : List Int) : Prop where
  one : 1 ≤ ns.length
  six : ns.length ≤ 6
  num : ∀ x ∈ ns, 0 ≤ x ∧ x ≤ 1000000

/-! ### rules with the written part named (a block's reading may not speak of the block) -/
section
variable {X : Cx} {K : PySem.W.Frag}
def rTup (K : PySem.W.Frag) : List V → Hp → VK → Prop := fun xs H Q => ∃ p ys, xs = [.ref p] ∧ ((SqL K H p ys ∧ ∀ l, H l = none → Q (.ref l) (upd H l (.tup ys))) ∨ (SqT K H p ys ∧ Q (.ref p) H))
theorem kIn (h : X.K = K) : OpR X (compareOp .In) (rIn K false) := h ▸ op_in_seq
theorem kNotIn (h : X.K = K) : OpR X (compareOp .NotIn) (rIn K true) := h ▸ op_notIn_seq
theorem kEqD (h : X.K = K) (hu : X.A.units + 64 < cLine) : OpR X (compareOp .Eq) (rEqD K) := h ▸ op_eqD hu
theorem kNeD (h : X.K = K) (hu : X.A.units + 64 < cLine) : OpR X (compareOp .NotEq) (rNeD K) := h ▸ op_neD hu
theorem kLen (h : X.K = K) : CallR X (.builtin "len") (rLenS K) := h ▸ call_len_seq
theorem kList (h : X.K = K) : CallR X (.type "list") (rListS K) := h ▸ call_list_of
theorem kTup' (h : X.K = K) : CallR X (.type "tuple") (rTup K) := h ▸ call_tuple_of
theorem kIxL (h : X.K = K) : IxR X (rIxL K) := h ▸ ix_list
theorem kIxT (h : X.K = K) : IxR X (rIxT K) := h ▸ ix_tup
theorem kSl (h : X.K = K) : SlR X (rSlL K) := h ▸ sl_list
theorem kSum (h : X.K = K) (hc : X.calm = true) : CallR X (.builtin "sum") (rSum K) := h ▸ cr_sum hc
theorem kMax (h : X.K = K) (hc : X.calm = true) : CallR X (.builtin "max") (rMax K) := h ▸ cr_max hc
theorem kMin (h : X.K = K) (hc : X.calm = true) : CallR X (.builtin "min") (rMin K) := h ▸ cr_min hc
theorem kAny (h : X.K = K) (hc : X.calm = true) : CallR X (.builtin "any") (rAny K) := h ▸ cr_any hc
theorem kAll (h : X.K = K) (hc : X.calm = true) : CallR X (.builtin "all") (rAll K) := h ▸ cr_all hc
theorem kSortI (h : X.K = K) : CallR X (.builtin "sorted") (rSortedI K) := h ▸ cr_sortedI
theorem kSortP (h : X.K = K) : CallR X (.builtin "sorted") (rSortedPO K) := h ▸ cr_sortedPO
theorem kIsi (h : X.K = K) : CallR X (.builtin "isinstance") (rIsi K) := h ▸ call_isi
theorem kIsiT (h : X.K = K) : CallR X (.builtin "isinstance") (rIsiT K) := h ▸ call_isiT
theorem kgTup {pos : Pos} {es : List Expr} {k : Nat} {t : TGs} {n : Nat} (hK : X.K = K) (hc : X.calm = true) (h : PGs X es t) (hn : (assignEach es X.env).length = n := by rfl) (hst : (assignEach es X.env).findIdx? (·.1) = none := by rfl) : PG X (.Tuple es k pos) (gTup K n t) := hK ▸ pg_tup hc h hn hst
theorem kAbs : CallR X (.builtin "abs") rAbs := call_abs
end

theorem nd_f {p : Prop} [Decidable p] (h : (!decide p) = false) : p := by
  by_cases hp : p
  · exact hp
  · rw [decide_eq_false hp] at h
    cases h
theorem nd_t {p : Prop} [Decidable p] (h : (!decide p) = true) : ¬ p := fun hp => by
  rw [decide_eq_true hp] at h
  cases h
/-! ### sizes of whole numbers -/
theorem sz_add {x y : Int} {a b : Nat} (hx : x.natAbs < 2 ^ a) (hy : y.natAbs < 2 ^ b) : (x + y).natAbs < 2 ^ (a + b + 1) := by
  have h1 : 2 ^ a ≤ 2 ^ (a + b) := Nat.pow_le_pow_right (by decide) (by omega)
  have h2 : 2 ^ b ≤ 2 ^ (a + b) := Nat.pow_le_pow_right (by decide) (by omega)
  have h3 : 2 ^ (a + b + 1) = 2 ^ (a + b) * 2 := Nat.pow_succ _ _
  have h4 := Int.natAbs_add_le x y
  omega
theorem sz_mul {x y : Int} {a b : Nat} (hx : x.natAbs < 2 ^ a) (hy : y.natAbs < 2 ^ b) : (x * y).natAbs < 2 ^ (a + b) := wide_lt hx hy
theorem sz_bits {x : Int} : x.natAbs < 2 ^ (Builtin.Int.intBits x) := by
  unfold Builtin.Int.intBits
  by_cases h : x = 0
  · subst h
    decide
  · have h2 : (x == 0) = false := by simp [h]
    rw [h2]
    exact Nat.lt_log2_self
theorem mulOk {x y : Int} {a b : Nat} (hx : x.natAbs < 2 ^ a) (hy : y.natAbs < 2 ^ b) (h : a + b ≤ 100000000) : IntMulOk x y := by
  have g : ∀ {z : Int} {c : Nat}, z.natAbs < 2 ^ c → Builtin.Int.intBits z ≤ c + 1 := fun {z c} hz => by
    have l : z.natAbs.log2 < c + 1 := PySem.Flt.log2_lt_of (by omega) (Nat.lt_of_lt_of_le hz (Nat.pow_le_pow_right (by decide) (by omega)))
    unfold Builtin.Int.intBits
    split <;> omega
  have h1 := g hx
  have h2 := g hy
  have e : bitsLine = 134217728 := by decide
  unfold IntMulOk
  intro z
  rw [Bool.and_eq_true] at z
  have z2 := z.2
  unfold Builtin.Int.intTooBig at z2
  have z3 := of_decide_eq_true z2
  rw [e] at z3
  omega
theorem divOk {i j : Int} (h : 0 < j) (h2 : j < 1073741824) : CDivW i j := ⟨h, Nat.lt_trans (PySem.Flt.log2_lt_of (k := 30) (by decide) (by omega)) (by decide)⟩
section
variable {K : PySem.W.Frag} {σ : L2.St} {H H' : Hp} {ta tb te : TE} {t : TT} {x y z v w : V} {D : Ends} {tz : TS}
theorem el_if {xs : List V} {b : Bool} (h : EvT t σ H b) (h1 : b = true → EvL ta σ H xs) (h2 : b = false → EvL tb σ H xs) : EvL (tIf t ta tb) σ H xs := fun H1 e Q q => h H1 e _ fun H2 e2 => by
  cases b with
  | true =>
    show ta σ H2 Q
    exact h1 rfl H2 (e.trans e2) Q fun p H3 hp e3 h3 => q p H3 (fresh_back e2 hp) (e2.trans e3) h3
  | false =>
    show tb σ H2 Q
    exact h2 rfl H2 (e.trans e2) Q fun p H3 hp e3 h3 => q p H3 (fresh_back e2 hp) (e2.trans e3) h3
/-- an item of a tuple written there -/
theorem ev_ixNT {xs : List V} {i : Int} (ha : EvU ta σ H xs) (hb : Ev tb σ H (.int i)) (hi : atI xs i = some v) : Ev (tOp (rIxT K) ta tb) σ H v := fun H1 e Q q =>
  ha H1 e _ fun p H2 _ e2 h2 => hb H2 (e.trans e2) _ fun H3 e3 => ⟨p, xs, i, v, rfl, rfl, st_of (e3 p _ h2), hi, q H3 (e2.trans e3)⟩
/-- a, b = e1, e2 -/
theorem q_parVL {i j : Nat} {ys : List V} (h1 : Ev ta σ H v) (h2 : EvL tb σ H ys) (k : ∀ p H1, H p = none → Ex H H1 → H1 p = some (.lst ys) → tz D ((σ.set i (some v)).set j (some (.ref p))) H1) : tSeq (tPar i j (tCons ta (tCons tb tNil))) tz D σ H :=
  h1 H (Ex.refl H) _ fun H1 e1 => h2 H1 e1 _ fun p H2 hp e2 hp2 => ⟨v, .ref p, rfl, k p H2 (fresh_back e1 hp) (e1.trans e2) hp2⟩
theorem cut_all {xs : List V} {n : Nat} (h : xs.length ≤ n) : cutV xs none (some (n : Int)) = xs := by
  unfold cutV
  rw [HT.sIx_none, HT.sIx_nat, Nat.min_eq_right h, List.drop_zero, Nat.sub_zero, List.take_length]
end

/-! ### sorted lists are one -/
theorem sorted_one {α : Type} {r : α → α → Prop} (anti : ∀ a b, r a b → r b a → a = b) : ∀ {l m : List α}, l.Perm m → l.Pairwise r → m.Pairwise r → l = m
  | [], m, h, _, _ => (List.nil_perm.mp h).symm
  | a :: l, [], h, _, _ => by
    have := h.length_eq
    simp at this
  | a :: l, b :: m, h, h1, h2 => by
    have e : a = b := by
      rcases List.mem_cons.mp (h.mem_iff.mp List.mem_cons_self) with e | ha
      · exact e
      · rcases List.mem_cons.mp (h.mem_iff.mpr List.mem_cons_self) with e | hb
        · exact e.symm
        · exact anti a b ((List.pairwise_cons.mp h1).1 b hb) ((List.pairwise_cons.mp h2).1 a ha)
    subst e
    rw [sorted_one anti h.cons_inv (List.pairwise_cons.mp h1).2 (List.pairwise_cons.mp h2).2]
def insI (x : Int) : List Int → List Int
  | [] => [x]
  | y :: l => if x ≤ y then x :: y :: l else y :: insI x l
def srt : List Int → List Int
  | [] => []
  | x :: l => insI x (srt l)
theorem insI_perm (x : Int) : ∀ l : List Int, (insI x l).Perm (x :: l)
  | [] => List.Perm.refl _
  | y :: l => by
    unfold insI
    split
    · exact List.Perm.refl _
    · exact ((insI_perm x l).cons y).trans (List.Perm.swap x y l)
theorem srt_perm : ∀ ns : List Int, (srt ns).Perm ns
  | [] => List.Perm.refl _
  | x :: l => (insI_perm x (srt l)).trans ((srt_perm l).cons x)
theorem insI_sorted (x : Int) : ∀ {l : List Int}, l.Pairwise (· ≤ ·) → (insI x l).Pairwise (· ≤ ·)
  | [], _ => List.pairwise_singleton _ _
  | y :: l, h => by
    obtain ⟨h1, h2⟩ := List.pairwise_cons.mp h
    unfold insI
    split
    · rename_i hx
      refine List.pairwise_cons.mpr ⟨fun z hz => ?_, h⟩
      rcases List.mem_cons.mp hz with e | hz
      · rw [e]; exact hx
      · have := h1 z hz
        omega
    · rename_i hx
      refine List.pairwise_cons.mpr ⟨fun z hz => ?_, insI_sorted x h2⟩
      rcases List.mem_cons.mp ((insI_perm x l).mem_iff.mp hz) with e | hz
      · rw [e]; omega
      · exact h1 z hz
theorem srt_sorted : ∀ ns : List Int, (srt ns).Pairwise (· ≤ ·)
  | [] => List.Pairwise.nil
  | x :: l => insI_sorted x (srt_sorted l)
theorem srt_one {ns ms : List Int} (h : ms.Perm ns) (hs : ms.Pairwise (· ≤ ·)) : ms = srt ns := sorted_one (fun a b h1 h2 => by omega) (h.trans (srt_perm ns).symm) hs (srt_sorted ns)
theorem srt_congr {ns ms : List Int} (h : ms.Perm ns) : srt ms = srt ns := srt_one ((srt_perm ms).trans h) (srt_sorted ms)
theorem srt_len (ns : List Int) : (srt ns).length = ns.length := (srt_perm ns).length_eq
def lexLe (p q : Int × Int) : Prop := p.1 < q.1 ∨ (p.1 = q.1 ∧ p.2 ≤ q.2)
instance (p q : Int × Int) : Decidable (lexLe p q) := inferInstanceAs (Decidable (_ ∨ _))
theorem lexLe_anti : ∀ a b : Int × Int, lexLe a b → lexLe b a → a = b := fun a b h1 h2 => by
  unfold lexLe at h1 h2
  exact Prod.ext (by omega) (by omega)
/-! ### calls whose answer is told by a word -/
def RetX (R : Hp → V → Hp → Prop) (H : Hp) (Q : VK) : Prop := ∀ v H2, Ex H H2 → R H v H2 → Q v H2
/-- R looks at the start only for what was free -/
def Back (R : Hp → V → Hp → Prop) : Prop := ∀ H1 H2 v H3, Ex H1 H2 → R H2 v H3 → R H1 v H3
theorem back_L {xs : List V} : Back (NL xs) := fun H1 H2 v H3 e ⟨p, h1, h2, h3⟩ => ⟨p, h1, fresh_back e h2, h3⟩
theorem back_P {ps : List (Int × Int)} : Back (NP ps) := fun H1 H2 v H3 e ⟨p, vs, h1, h2, h3⟩ => ⟨p, vs, h1, fresh_back e h2, h3⟩
def SpX (sp : Sp) (vs : List V) (H : Hp) (R : Hp → V → Hp → Prop) : Prop := ∀ H1, Ex H H1 → ∀ Q : VK, RetX R H1 Q → ∀ E : XK, sp vs H1 Q E
section
variable {K : PySem.W.Frag} {σ : L2.St} {H H' : Hp} {ta tb te : TE} {t : TT} {x y z v w : V} {D : Ends} {tz : TS} {R : Hp → V → Hp → Prop}
theorem ex_call {sp : Sp} {dvs vs : List V} {E : XK} {ta : TA} (hR : Back R) (h : EvA ta σ H vs) (hs : SpX sp (vs ++ dvs) H R) : EvX (tCall sp dvs E ta) σ H R := fun H1 e Q q =>
  h H1 e _ fun H2 e2 => hs H2 (e.trans e2) Q (fun v H3 e3 r => q v H3 (e2.trans e3) (hR _ _ _ _ e2 r)) E
/-- xs.extend(a new list of pairs) -/
theorem q_extP {l : Addr} {vs : List V} {ps qs : List (Int × Int)} (hl : H l = some (.lst vs)) (hp : Prs H vs ps) (ha : Ev ta σ H (.ref l)) (h : EvX te σ H (NP qs)) (hz : ps.length + qs.length ≤ 100000)
    (k : ∀ H1 ws, Ex H H1 → Prs (upd H1 l (.lst ws)) ws (ps ++ qs) → tz D σ (upd H1 l (.lst ws))) : tSeq (tDrop (tBM K "list" rExtend ta (tCons te tNil))) tz D σ H := ha H (Ex.refl H) _ fun H1 e1 =>
  ⟨Or.inl ⟨rfl, vs, sq_of (e1 l _ hl)⟩, h H1 e1 _ fun v H2 e2 hv => by
    obtain ⟨p, ws, rfl, hp0, hp2, hw⟩ := hv
    refine ⟨l, p, vs, ws, rfl, rfl, e2 l _ (e1 l _ hl), hp2, sz_of (by rw [hp.len, hw.len]; exact hz), k H2 (vs ++ ws) (e1.trans e2) ?_⟩
    exact ((hp.mono (e1.trans e2)).append hw).stay (e2 l _ (e1 l _ hl)) fun a o na ho => by rw [upd_ne na]; exact ho⟩
theorem s_extP {l : Addr} {vs : List V} {ps qs : List (Int × Int)} (hl : H l = some (.lst vs)) (hp : Prs H vs ps) (ha : Ev ta σ H (.ref l)) (h : EvX te σ H (NP qs)) (hz : ps.length + qs.length ≤ 100000)
    (k : ∀ H1 ws, Ex H H1 → Prs (upd H1 l (.lst ws)) ws (ps ++ qs) → D.nx σ (upd H1 l (.lst ws))) : tDrop (tBM K "list" rExtend ta (tCons te tNil)) D σ H := q_extP (D := D) (tz := tNext) hl hp ha h hz k
/-- sorted of whole numbers -/
theorem el_sortI {a : Addr} {ns : List Int} (ha : Ev ta σ H (.ref a)) (hx : SqL K H a (ns.map V.int)) : EvL (tCB (rSortedI K) (tCons ta tNil)) σ H ((srt ns).map V.int) := fun H1 e Q q =>
  ha H1 e _ fun H2 e2 => ⟨a, ns, rfl, ex_l (e.trans e2) hx, fun ms p h1 h2 hp => by
    rw [srt_one h1 h2]
    exact q p _ (fresh_back e2 hp) (e2.trans (Ex.new hp)) upd_same⟩
theorem el_sortIN {ns : List Int} (ha : EvL ta σ H (ns.map V.int)) : EvL (tCB (rSortedI K) (tCons ta tNil)) σ H ((srt ns).map V.int) := fun H1 e Q q =>
  ha H1 e _ fun a H2 _ e2 hx => ⟨a, ns, rfl, sq_of hx, fun ms p h1 h2 hp => by
    rw [srt_one h1 h2]
    exact q p _ (fresh_back e2 hp) (e2.trans (Ex.new hp)) upd_same⟩
/-- sorted of pairs -/
def prOf (H : Hp) : V → Int × Int
  | .ref t => match H t with
    | some (.tup [.int i, .int j]) => (i, j)
    | _ => (0, 0)
  | _ => (0, 0)
theorem prOf_at {t : Addr} {i j : Int} (h : H t = some (.tup [.int i, .int j])) : prOf H (.ref t) = (i, j) := by
  simp only [prOf, h]
theorem prs_map : ∀ {vs : List V} {ps : List (Int × Int)}, Prs H vs ps → vs.map (prOf H) = ps ∧ ∀ v ∈ vs, ∃ t, v = .ref t ∧ H t = some (.tup [.int (prOf H v).1, .int (prOf H v).2])
  | _, _, .nil => ⟨rfl, fun v hv => by cases hv⟩
  | _, _, .cons ⟨t, e, h⟩ r => by
    subst e
    obtain ⟨h1, h2⟩ := prs_map r
    refine ⟨by rw [List.map_cons, h1, prOf_at h], fun v hv => ?_⟩
    rcases List.mem_cons.mp hv with e | hv
    · subst e
      exact ⟨t, rfl, by rw [prOf_at h]; exact h⟩
    · exact h2 v hv
theorem prs_of : ∀ {vs : List V}, (∀ v ∈ vs, ∃ t, v = .ref t ∧ H t = some (.tup [.int (prOf H v).1, .int (prOf H v).2])) → Prs H vs (vs.map (prOf H))
  | [], _ => .nil
  | v :: vs, h => .cons (h v List.mem_cons_self) (prs_of fun u hu => h u (List.mem_cons_of_mem _ hu))
theorem ex_sortP {a : Addr} {vs : List V} {ps qs : List (Int × Int)} (ha : Ev ta σ H (.ref a)) (hx : H a = some (.lst vs)) (hr : Prs H vs ps) (hq : qs.Perm ps) (hs : qs.Pairwise lexLe) : EvX (tCB (rSortedPO K) (tCons ta tNil)) σ H (NP qs) := fun H1 e Q q =>
  ha H1 e _ fun H2 e2 => by
    have hr2 := hr.mono (e.trans e2)
    obtain ⟨m1, m2⟩ := prs_map hr2
    refine ⟨a, vs, prOf H2, rfl, sq_of ((e.trans e2) _ _ hx), m2, fun ys p h1 h2 hp => ?_⟩
    have hy : ∀ v ∈ ys, ∃ t, v = .ref t ∧ H2 t = some (.tup [.int (prOf H2 v).1, .int (prOf H2 v).2]) := fun v hv => m2 v (h2.perm.mem_iff.mp hv)
    have ey : ys.map (prOf H2) = qs := by
      refine sorted_one lexLe_anti ((h2.perm.map (prOf H2)).trans (by rw [m1]; exact hq.symm)) (List.pairwise_map.mpr (h1.imp fun {x y} h => ?_)) hs
      have := SrtO.lexB_no.mp h
      unfold lexLe
      omega
    refine q (.ref p) _ (e2.trans (Ex.new hp)) ⟨p, ys, rfl, fresh_back e2 hp, upd_same, ?_⟩
    rw [← ey]
    exact (prs_of hy).mono (Ex.new hp)
end

/-- some whole number -/
def AnyI : Hp → V → Hp → Prop := fun _ v _ => ∃ z : Int, v = .int z
theorem back_I : Back AnyI := fun _ _ _ _ _ h => h
section
variable {σ : L2.St} {H : Hp} {ta tb : TE} {y : V} {r : R2}
theorem ex_opI {R : Hp → V → Hp → Prop} (hR : Back R) (ha : EvX ta σ H AnyI) (hb : Ev tb σ H y) (hr : ∀ z : Int, ∃ u : V, RV r (.int z) y H u ∧ ∀ H1 H2, R H1 u H2) : EvX (tOp r ta tb) σ H R := fun H1 e Q q =>
  ha H1 e _ fun v H2 e2 ⟨z, hz⟩ => hb H2 (e.trans e2) _ fun H3 e3 => by
    subst hz
    obtain ⟨u, h1, h2⟩ := hr z
    exact h1 H3 ((e.trans e2).trans e3) Q fun H4 e4 => q u H4 ((e2.trans e3).trans e4) (h2 _ _)
end

/-! ### arguments told by a word -/
def EvAX (ta : TA) (σ : L2.St) (H : Hp) (R : List V → Hp → Prop) : Prop := ∀ H1, Ex H H1 → ∀ Q : List V → Hp → Prop, (∀ vs H2, Ex H1 H2 → R vs H2 → Q vs H2) → ta σ H1 Q
section
variable {K : PySem.W.Frag} {σ : L2.St} {H H' : Hp} {ta tb te tl : TE} {tr : TA} {t : TT} {x y z v w : V} {D : Ends} {tu tz : TS} {R : Hp → V → Hp → Prop} {S : Hp → V → Hp → Prop} {RA : List V → Hp → Prop}
theorem eax_nil (h : ∀ H1, Ex H H1 → RA [] H1) : EvAX tNil σ H RA := fun H1 e Q q => q [] H1 (Ex.refl _) (h H1 e)
theorem eax_cons (h : EvX te σ H S) (hr : ∀ H0 v H1, Ex H H1 → S H0 v H1 → EvAX tr σ H1 (fun ws H2 => RA (v :: ws) H2)) : EvAX (tCons te tr) σ H RA := fun H1 e Q q =>
  h H1 e _ fun v H2 e2 s => hr H1 v H2 (e.trans e2) s H2 (Ex.refl _) _ fun ws H3 e3 r => q _ H3 (e2.trans e3) r
theorem eax_v (h : Ev te σ H v) (hr : EvAX tr σ H (fun ws H2 => RA (v :: ws) H2)) : EvAX (tCons te tr) σ H RA := fun H1 e Q q =>
  h H1 e _ fun H2 e2 => hr H2 (e.trans e2) _ fun ws H3 e3 r => q _ H3 (e2.trans e3) r
theorem eax_l {xs : List V} (h : EvL te σ H xs) (hr : ∀ p H1, Ex H H1 → H1 p = some (.lst xs) → EvAX tr σ H1 (fun ws H2 => RA (.ref p :: ws) H2)) : EvAX (tCons te tr) σ H RA :=
  eax_cons (S := NL xs) (ex_l' h) fun _ v H1 e ⟨p, e1, _, h1⟩ => by
    subst e1
    exact hr p H1 e h1
theorem eax_u {xs : List V} (h : EvU te σ H xs) (hr : ∀ p H1, Ex H H1 → H1 p = some (.tup xs) → EvAX tr σ H1 (fun ws H2 => RA (.ref p :: ws) H2)) : EvAX (tCons te tr) σ H RA := fun H1 e Q q =>
  h H1 e _ fun p H2 _ e2 hp => hr p H2 (e.trans e2) hp H2 (Ex.refl _) _ fun ws H3 e3 r => q _ H3 (e2.trans e3) r
theorem exx_call {sp : Sp} {dvs : List V} {E : XK} (hR : Back R) (h : EvAX tr σ H RA) (hs : ∀ vs H1, Ex H H1 → RA vs H1 → SpX sp (vs ++ dvs) H1 R) : EvX (tCall sp dvs E tr) σ H R := fun H1 e Q q =>
  h H1 e _ fun vs H2 e2 r => hs vs H2 (e.trans e2) r H2 (Ex.refl _) Q (fun v H3 e3 r => q v H3 (e2.trans e3) (hR _ _ _ _ e2 r)) E
theorem sp_lx {sp : Sp} {vs xs : List V} (h : SpL sp vs H xs) : SpX sp vs H (NL xs) := fun H1 e Q q E => h H1 e Q (fun p H2 hp e2 h2 => q _ H2 e2 ⟨p, rfl, hp, h2⟩) E
theorem sp_vx {sp : Sp} {vs : List V} (h : SpV sp vs H v) : SpX sp vs H (fun _ w _ => w = v) := fun H1 e Q q E => h H1 e Q (fun H2 e2 => q _ H2 e2 rfl) E
theorem back_V : Back (fun _ w _ => w = v) := fun _ _ _ _ _ h => h

/-! ### a for over a new list of pairs -/
theorem s_forP {ps : List (Int × Int)} {j : Nat} (h : EvX tl σ H (NP ps)) (k : ∀ p xs H1, H p = none → Ex H H1 → H1 p = some (.lst xs) → Prs H1 xs ps → ∃ Pv : Nat → L2.St → Hp → Prop, Pv 0 σ H1 ∧ (∀ i σ' H', Pv i σ' H' → H' p = some (.lst xs)) ∧
    (∀ i (q : Int × Int) t σ' H', ps[i]? = some q → H1 t = some (.tup [.int q.1, .int q.2]) → Pv i σ' H' → tu { D with nx := Pv (i + 1), ct := Pv (i + 1), bk := D.nx } (σ'.set j (some (.ref t))) H') ∧ ∀ σ' H', Pv ps.length σ' H' → D.nx σ' H') :
    tFor (iList K tl) (gName j) tu D σ H := h H (Ex.refl H) _ fun v H1 e hv => by
  obtain ⟨p, xs, rfl, h0, h1, h2⟩ := hv
  obtain ⟨Pv, k1, k2, k3, k4⟩ := k p xs H1 h0 e h1 h2
  refine ⟨p, rfl, ⟨xs, sq_of h1⟩, for_list Pv k1 (fun i σ' H' _ hp => sq_of (k2 i σ' H' hp)) (fun i x σ' H' hx hp => ?_) fun σ' H' hp => k4 σ' H' (by rw [← h2.len]; exact hp)⟩
  obtain ⟨q, t, hq, rfl, ht⟩ := h2.get hx
  exact k3 i q t σ' H' hq ht hp
theorem q_forP {ps : List (Int × Int)} {j : Nat} (h : EvX tl σ H (NP ps)) (k : ∀ p xs H1, H p = none → Ex H H1 → H1 p = some (.lst xs) → Prs H1 xs ps → ∃ Pv : Nat → L2.St → Hp → Prop, Pv 0 σ H1 ∧ (∀ i σ' H', Pv i σ' H' → H' p = some (.lst xs)) ∧
    (∀ i (q : Int × Int) t σ' H', ps[i]? = some q → H1 t = some (.tup [.int q.1, .int q.2]) → Pv i σ' H' → tu { D with nx := Pv (i + 1), ct := Pv (i + 1), bk := tz D } (σ'.set j (some (.ref t))) H') ∧ ∀ σ' H', Pv ps.length σ' H' → tz D σ' H') :
    tSeq (tFor (iList K tl) (gName j) tu) tz D σ H := s_forP (D := { D with nx := tz D }) h k
/-! ### the greatest, the least -/
end
def maxL : List Int → Int
  | [] => 0
  | [x] => x
  | x :: y :: r => if x ≤ maxL (y :: r) then maxL (y :: r) else x
def minL : List Int → Int
  | [] => 0
  | [x] => x
  | x :: y :: r => if minL (y :: r) ≤ x then minL (y :: r) else x
theorem maxL_is : ∀ {ns : List Int}, 0 < ns.length → maxL ns ∈ ns ∧ ∀ y ∈ ns, y ≤ maxL ns
  | [], h => by simp at h
  | [x], _ => ⟨List.mem_singleton.mpr rfl, fun y hy => by rw [List.mem_singleton.mp hy]; exact Int.le_refl _⟩
  | x :: y :: r, _ => by
    obtain ⟨h1, h2⟩ := maxL_is (ns := y :: r) (by simp)
    unfold maxL
    split
    · rename_i h
      refine ⟨List.mem_cons_of_mem _ h1, fun z hz => ?_⟩
      rcases List.mem_cons.mp hz with e | hz
      · rw [e]; exact h
      · exact h2 z hz
    · rename_i h
      refine ⟨List.mem_cons_self, fun z hz => ?_⟩
      rcases List.mem_cons.mp hz with e | hz
      · rw [e]; exact Int.le_refl _
      · have := h2 z hz
        omega
theorem minL_is : ∀ {ns : List Int}, 0 < ns.length → minL ns ∈ ns ∧ ∀ y ∈ ns, minL ns ≤ y
  | [], h => by simp at h
  | [x], _ => ⟨List.mem_singleton.mpr rfl, fun y hy => by rw [List.mem_singleton.mp hy]; exact Int.le_refl _⟩
  | x :: y :: r, _ => by
    obtain ⟨h1, h2⟩ := minL_is (ns := y :: r) (by simp)
    unfold minL
    split
    · rename_i h
      refine ⟨List.mem_cons_of_mem _ h1, fun z hz => ?_⟩
      rcases List.mem_cons.mp hz with e | hz
      · rw [e]; exact h
      · exact h2 z hz
    · rename_i h
      refine ⟨List.mem_cons_self, fun z hz => ?_⟩
      rcases List.mem_cons.mp hz with e | hz
      · rw [e]; exact Int.le_refl _
      · have := h2 z hz
        omega
section
variable {K : PySem.W.Frag} {σ : L2.St} {H H' : Hp} {ta tb te tl : TE}
theorem max_one {ns : List Int} {m : Int} (h0 : 0 < ns.length) (h1 : m ∈ ns) (h2 : ∀ y, y ∈ ns → y ≤ m) : m = maxL ns := by
  obtain ⟨a, b⟩ := maxL_is h0
  have := h2 _ a
  have := b _ h1
  omega
theorem min_one {ns : List Int} {m : Int} (h0 : 0 < ns.length) (h1 : m ∈ ns) (h2 : ∀ y, y ∈ ns → m ≤ y) : m = minL ns := by
  obtain ⟨a, b⟩ := minL_is h0
  have := h2 _ a
  have := b _ h1
  omega
theorem ev_max {a : Addr} {ns : List Int} (ha : Ev ta σ H (.ref a)) (hx : SqL K H a (ns.map V.int)) (h0 : 0 < ns.length) : Ev (tCB (rMax K) (tCons ta tNil)) σ H (.int (maxL ns)) := fun H1 e Q q =>
  ha H1 e _ fun H2 e2 => ⟨a, ns, rfl, ex_l (e.trans e2) hx, h0, fun m h1 h2 => by
    rw [max_one h0 h1 h2]
    exact q H2 e2⟩
theorem ev_min {a : Addr} {ns : List Int} (ha : Ev ta σ H (.ref a)) (hx : SqL K H a (ns.map V.int)) (h0 : 0 < ns.length) : Ev (tCB (rMin K) (tCons ta tNil)) σ H (.int (minL ns)) := fun H1 e Q q =>
  ha H1 e _ fun H2 e2 => ⟨a, ns, rfl, ex_l (e.trans e2) hx, h0, fun m h1 h2 => by
    rw [min_one h0 h1 h2]
    exact q H2 e2⟩
end
theorem maxL_le {ns : List Int} {m : Int} (h0 : 0 < ns.length) (h : ∀ x ∈ ns, x ≤ m) : maxL ns ≤ m := h _ (maxL_is h0).1
end Lw

set_option Elab.async false
set_option linter.all false
set_option maxRecDepth 100000
set_option maxHeartbeats 4000000
/-! W1: dicts. -/
namespace Lw
open PySem PySem.Spec PyProof.Rows L2 Evl

/-! ### {k: v}, the key a tuple -/
def tDispT1 (tk tv : TE) : TE := fun σ H Q => ∀ p, H p = none → tk σ (upd H p (.dT [])) fun x H1 => tv σ H1 fun y H2 => H2 p = some (.dT []) ∧ ∃ (b : Addr) (k : List L2.Key), x = .ref b ∧ H2 b = some (.tup (k.map kV)) ∧ Q (.ref p) (upd H2 p (.dT [(k, y)]))
theorem pe_dispT1 {X : Cx} {ke ve : Expr} {tk tv : TE} {pos : Pos} (hu : X.A.units + 64 < cLine) (hk : PE X ke tk) (hv : PE X ve tv) : PE X (.Dict [some ke] [ve] pos) (tDispT1 tk tv) := by
  refine ⟨fun pins s σ H Q I q => ?_⟩
  have hn := I.hok.fresh (Nat.le_refl s.heap.objs.size)
  have I1 := I.laid (a := s.heap.objs.size) (o := .dT []) (h' := s.heap.push { cls := .type "dict", data := .dict #[] }) (t' := s.toks) (fun _ _ q => Heap.get?_push_of_some _ q) (Nat.le_refl _) (dt_empty s.heap I.big)
  have hroom : (tupleKind (mixKind X.prog X.w)).room X.A := by
    show X.A.units < cLine
    omega
  have hsh := zip_pairTrees [some ke] [ve] X.env pos rfl rfl
  have hn1 : (pairTrees [some ke] [ve] X.env pos).length = 1 := pairTrees_length [some ke] [ve] X.env pos rfl rfl
  rw [arm_eval_Dict, hsh, dictDisplay_pairs (pairTrees [some ke] [ve] X.env pos) (fun h => by rw [h] at hn1; cases hn1) (by rw [hn1]; decide)]
  refine wpAny_bind (wpAny_standAt (wpAny_bind (wpAny_subDictH (knd := tupleKind (mixKind X.prog X.w)) hroom (by rw [hn1]; decide) ?_)))
  refine pairTrees_cons_walk (thn (hk.run pins _ σ _ _ I1 (q _ hn)) fun u s1 ⟨x, H1, I2, rx, q1⟩ => thn (hv.run pins s1 σ H1 _ I2 q1) fun v s2 ⟨y, H2, I3, ry, e, b, k, ex, eb, q2⟩ => pairTrees_nil_walk ?_)
  subst ex
  cases (show u = Value.ref b from rx)
  obtain ⟨z, hd, xs, rel, dd⟩ := dt_of I3.hok e
  cases rel
  refine ⟨[(k, b, v)], ⟨rfl, rfl, key_of I3.hok eb, trivial⟩, dd, fun h' tk hm hs => wpAny_pure ?_⟩
  obtain ⟨o, es, ep, ho, h2, h3, h4, h6, h5⟩ := hm
  refine ⟨.ref s.heap.objs.size, _, ?_, rfl, q2⟩
  refine d_write I3 (by rw [e]; exact True.intro) hs ⟨o, ho⟩ ⟨show 1 ≤ sizeLine by decide, hd, [(k, b, v)], .cons ⟨rfl, ?_, ry⟩ .nil, o, es, ep, ho, h2, h3, h4, h5⟩
  rw [upd_ne (ne_of eb e (fun z => nomatch z))]
  exact eb

def kI (ns : List Int) : List L2.Key := ns.map Sum.inl
theorem kI_V (ns : List Int) : (kI ns).map kV = ns.map V.int := by
  unfold kI
  rw [List.map_map]
  rfl
theorem kI_inj {a b : List Int} (h : kI a = kI b) : a = b := by
  unfold kI at h
  exact (List.map_inj_right (fun x y e => Sum.inl.inj e)).mp h
/-! ### heaps that differ at some places -/
def ExS (ms : List Addr) (H H' : Hp) : Prop := ∀ a o, a ∉ ms → H a = some o → H' a = some o
theorem ExS.refl {ms : List Addr} (H : Hp) : ExS ms H H := fun _ _ _ h => h
theorem ExS.of {ms : List Addr} {H H' : Hp} (e : Ex H H') : ExS ms H H' := fun a o _ h => e a o h
theorem ExS.trans {ms : List Addr} {H H1 H2 : Hp} (a : ExS ms H H1) (b : ExS ms H1 H2) : ExS ms H H2 := fun x o n h => b x o n (a x o n h)
theorem ExS.put {ms : List Addr} {H H' : Hp} {m : Addr} {o : HO} (e : ExS ms H H') (h : m ∈ ms) : ExS ms H (upd H' m o) := fun a u n ha => by
  rw [upd_ne (fun z => n (by rw [z]; exact h))]
  exact e a u n ha
theorem ExS.more {ms ms' : List Addr} {H H' : Hp} (e : ExS ms H H') (h : ∀ a ∈ ms, a ∈ ms') : ExS ms' H H' := fun a o n ha => e a o (fun z => n (h a z)) ha
theorem ExS.ex {ms : List Addr} {B H H' : Hp} (e : Ex B H) (s : ExS ms H H') (h : ∀ m ∈ ms, B m = none) : Ex B H' := fun a o ha => s a o (fun z => by rw [h a z] at ha; cases ha) (e a o ha)
theorem rd_mono {H H' : Hp} {d : Addr} {o : HO} (e : Ex H H') (h : Rd H d o) : Rd H' d o := ex_rd e h
section
variable {K : PySem.W.Frag} {σ : L2.St} {H H' : Hp} {td ty tv tx ta tb te : TE} {t : TT} {x y z v w : V} {D : Ends} {tu tz : TS} {R : Hp → V → Hp → Prop} {d b : Addr}
/-! ### what a dict tells -/
theorem et_ninT {kvs : List (List L2.Key × V)} {ns : List Int} (hk : Ev ty σ H (.ref b)) (hd : Ev td σ H (.ref d)) (hb : H b = some (.tup (ns.map V.int))) (hD : Rd H d (.dT kvs)) : EvT (tB (tDNotIn ty td)) σ H (!(valV kvs (kI ns)).isSome) := fun H1 e Q q =>
  hk H1 e _ fun H2 e2 => hd H2 (e.trans e2) _ fun H3 e3 => ⟨d, _, rfl, .inr ⟨kvs, kI ns, b, ex_rd ((e.trans e2).trans e3) hD, rfl, by rw [kI_V]; exact ((e.trans e2).trans e3) _ _ hb, rfl⟩, _, rfl, q H3 (e2.trans e3)⟩
theorem et_inK {kvs : List (L2.Key × V)} {n : Int} (hk : Ev ty σ H (.int n)) (hd : Ev td σ H (.ref d)) (hD : Rd H d (.dK kvs)) : EvT (tB (tDIn ty td)) σ H (valV kvs (Sum.inl n : L2.Key)).isSome := fun H1 e Q q =>
  hk H1 e _ fun H2 e2 => hd H2 (e.trans e2) _ fun H3 e3 => ⟨d, _, rfl, .inl ⟨kvs, Sum.inl n, ex_rd ((e.trans e2).trans e3) hD, rfl, rfl⟩, _, rfl, q H3 (e2.trans e3)⟩
theorem et_ninK {kvs : List (L2.Key × V)} {n : Int} (hk : Ev ty σ H (.int n)) (hd : Ev td σ H (.ref d)) (hD : Rd H d (.dK kvs)) : EvT (tB (tDNotIn ty td)) σ H (!(valV kvs (Sum.inl n : L2.Key)).isSome) := fun H1 e Q q =>
  hk H1 e _ fun H2 e2 => hd H2 (e.trans e2) _ fun H3 e3 => ⟨d, _, rfl, .inl ⟨kvs, Sum.inl n, ex_rd ((e.trans e2).trans e3) hD, rfl, rfl⟩, _, rfl, q H3 (e2.trans e3)⟩
theorem ev_dgetT {kvs : List (List L2.Key × V)} {ns : List Int} (hd : Ev td σ H (.ref d)) (hk : Ev ty σ H (.ref b)) (hb : H b = some (.tup (ns.map V.int))) (hD : Rd H d (.dT kvs)) (hv : valV kvs (kI ns) = some v) : Ev (tDGet td ty) σ H v := fun H1 e Q q =>
  hd H1 e _ fun H2 e2 => hk H2 (e.trans e2) _ fun H3 e3 => ⟨d, v, rfl, .inr ⟨kvs, kI ns, b, ex_rd ((e.trans e2).trans e3) hD, rfl, by rw [kI_V]; exact ((e.trans e2).trans e3) _ _ hb, hv.symm⟩, q H3 (e2.trans e3)⟩
theorem ev_dgetK {kvs : List (L2.Key × V)} {n : Int} (hd : Ev td σ H (.ref d)) (hk : Ev ty σ H (.int n)) (hD : Rd H d (.dK kvs)) (hv : valV kvs (Sum.inl n : L2.Key) = some v) : Ev (tDGet td ty) σ H v := fun H1 e Q q =>
  hd H1 e _ fun H2 e2 => hk H2 (e.trans e2) _ fun H3 e3 => ⟨d, v, rfl, .inl ⟨kvs, Sum.inl n, ex_rd ((e.trans e2).trans e3) hD, rfl, hv.symm⟩, q H3 (e2.trans e3)⟩
theorem ev_dget2K {kvs : List (L2.Key × V)} {n : Int} (hd : Ev td σ H (.ref d)) (hk : Ev ty σ H (.int n)) (hx : Ev tx σ H z) (hD : Rd H d (.dK kvs)) : Ev (tDGet2 td ty tx) σ H ((valV kvs (Sum.inl n : L2.Key)).getD z) := fun H1 e Q q =>
  hd H1 e _ fun H2 e2 => ⟨d, rfl, .inl ⟨kvs, ex_rd (e.trans e2) hD⟩, hk H2 (e.trans e2) _ fun H3 e3 => hx H3 ((e.trans e2).trans e3) _ fun H4 e4 => ⟨_, .inl ⟨kvs, Sum.inl n, ex_rd (((e.trans e2).trans e3).trans e4) hD, rfl, rfl⟩, q H4 ((e2.trans e3).trans e4)⟩⟩
theorem ev_dget2T {kvs : List (List L2.Key × V)} {ns : List Int} (hd : Ev td σ H (.ref d)) (hk : Ev ty σ H (.ref b)) (hx : Ev tx σ H z) (hb : H b = some (.tup (ns.map V.int))) (hD : Rd H d (.dT kvs)) : Ev (tDGet2 td ty tx) σ H ((valV kvs (kI ns)).getD z) := fun H1 e Q q =>
  hd H1 e _ fun H2 e2 => ⟨d, rfl, .inr ⟨kvs, ex_rd (e.trans e2) hD⟩, hk H2 (e.trans e2) _ fun H3 e3 => hx H3 ((e.trans e2).trans e3) _ fun H4 e4 => ⟨_, .inr ⟨kvs, kI ns, b, ex_rd (((e.trans e2).trans e3).trans e4) hD, rfl, by rw [kI_V]; exact (((e.trans e2).trans e3).trans e4) _ _ hb, rfl⟩, q H4 ((e2.trans e3).trans e4)⟩⟩
theorem ev_lenDT {kvs : List (List L2.Key × V)} (ha : Ev ta σ H (.ref d)) (h : H d = some (.dT kvs)) : Ev (tCB rLenT (tCons ta tNil)) σ H (.int (kvs.length : Int)) := fun H1 e Q q =>
  ha H1 e _ fun H2 e2 => ⟨d, kvs, rfl, (e.trans e2) _ _ h, q H2 e2⟩
/-! ### stores -/
theorem sz10 {n : Nat} (h : n < 16000000) : n < sizeLine := Nat.lt_of_lt_of_le h (by decide)
theorem s_dputK {kvs : List (L2.Key × V)} {n : Int} (hv : Ev tv σ H v) (hd : Ev td σ H (.ref d)) (hk : Ev ty σ H (.int n)) (hD : H d = some (.dK kvs)) (hl : kvs.length < 16000000) (k : ∀ H1, Ex H H1 → D.nx σ (upd H1 d (.dK (putK kvs (Sum.inl n) v)))) : sDPut td ty tv D σ H :=
  hv H (Ex.refl _) _ fun H1 e1 => hd H1 e1 _ fun H2 e2 => hk H2 (e1.trans e2) _ fun H3 e3 => ⟨d, _, rfl, DPut.k (k := Sum.inl n) (((e1.trans e2).trans e3) _ _ hD) (sz10 hl), k H3 ((e1.trans e2).trans e3)⟩
theorem q_dputK {kvs : List (L2.Key × V)} {n : Int} (hv : Ev tv σ H v) (hd : Ev td σ H (.ref d)) (hk : Ev ty σ H (.int n)) (hD : H d = some (.dK kvs)) (hl : kvs.length < 16000000) (k : ∀ H1, Ex H H1 → tz D σ (upd H1 d (.dK (putK kvs (Sum.inl n) v)))) : tSeq (sDPut td ty tv) tz D σ H := s_dputK (D := { D with nx := tz D }) hv hd hk hD hl k
/-- the key a tuple that stands -/
theorem s_dputT {kvs : List (List L2.Key × V)} {ns : List Int} (hv : Ev tv σ H v) (hd : Ev td σ H (.ref d)) (hk : Ev ty σ H (.ref b)) (hb : H b = some (.tup (ns.map V.int))) (hD : H d = some (.dT kvs)) (hl : kvs.length < 16000000) (k : ∀ H1, Ex H H1 → D.nx σ (upd H1 d (.dT (putK kvs (kI ns) v)))) : sDPut td ty tv D σ H :=
  hv H (Ex.refl _) _ fun H1 e1 => hd H1 e1 _ fun H2 e2 => hk H2 (e1.trans e2) _ fun H3 e3 => ⟨d, _, rfl, DPut.t (k := kI ns) (((e1.trans e2).trans e3) _ _ hD) (by rw [kI_V]; exact ((e1.trans e2).trans e3) _ _ hb) (sz10 hl), k H3 ((e1.trans e2).trans e3)⟩
theorem q_dputT {kvs : List (List L2.Key × V)} {ns : List Int} (hv : Ev tv σ H v) (hd : Ev td σ H (.ref d)) (hk : Ev ty σ H (.ref b)) (hb : H b = some (.tup (ns.map V.int))) (hD : H d = some (.dT kvs)) (hl : kvs.length < 16000000) (k : ∀ H1, Ex H H1 → tz D σ (upd H1 d (.dT (putK kvs (kI ns) v)))) : tSeq (sDPut td ty tv) tz D σ H := s_dputT (D := { D with nx := tz D }) hv hd hk hb hD hl k
/-- the key a new tuple -/
theorem s_dputTN {kvs : List (List L2.Key × V)} {ns : List Int} (hv : Ev tv σ H v) (hd : Ev td σ H (.ref d)) (hk : EvU ty σ H (ns.map V.int)) (hD : H d = some (.dT kvs)) (hl : kvs.length < 16000000) (k : ∀ H1, Ex H H1 → D.nx σ (upd H1 d (.dT (putK kvs (kI ns) v)))) : sDPut td ty tv D σ H :=
  hv H (Ex.refl _) _ fun H1 e1 => hd H1 e1 _ fun H2 e2 => hk H2 (e1.trans e2) _ fun b H3 _ e3 hb => ⟨d, _, rfl, DPut.t (k := kI ns) (((e1.trans e2).trans e3) _ _ hD) (by rw [kI_V]; exact hb) (sz10 hl), k H3 ((e1.trans e2).trans e3)⟩
/-! ### new dicts -/
def NDT (kvs : List (List L2.Key × V)) : Hp → V → Hp → Prop := fun H1 v H2 => ∃ p, v = .ref p ∧ H1 p = none ∧ H2 p = some (.dT kvs)
theorem back_DT {kvs : List (List L2.Key × V)} : Back (NDT kvs) := fun H1 H2 v H3 e ⟨p, h1, h2, h3⟩ => ⟨p, h1, fresh_back e h2, h3⟩
theorem back_D {kvs : List (L2.Key × V)} : Back (ND kvs) := fun H1 H2 v H3 e ⟨p, h1, h2, h3⟩ => ⟨p, h1, fresh_back e h2, h3⟩
theorem ex_newT : EvX tDNewT σ H (NDT []) := fun H1 e Q q p hp => q _ _ (Ex.new hp) ⟨p, rfl, hp, upd_same⟩
theorem ex_newK : EvX tDNewK σ H (ND []) := fun H1 e Q q p hp => q _ _ (Ex.new hp) ⟨p, rfl, hp, upd_same⟩
theorem ex_dispT1 {ns : List Int} (hk : EvU ta σ H (ns.map V.int)) (hv : Ev tv σ H v) : EvX (tDispT1 ta tv) σ H (NDT [(kI ns, v)]) := fun H1 e Q q p hp =>
  hk _ (e.trans (Ex.new hp)) _ fun b H2 _ e2 hb => hv H2 ((e.trans (Ex.new hp)).trans e2) _ fun H3 e3 =>
    ⟨e3 _ _ (e2 _ _ upd_same), b, kI ns, rfl, by rw [kI_V]; exact e3 _ _ hb, q _ _ (Ex.mut (((Ex.new hp).trans e2).trans e3) hp) ⟨p, rfl, hp, upd_same⟩⟩
theorem ex_dispK1 {n : Int} (hk : Ev ta σ H (.int n)) (hv : Ev tv σ H v) : EvX (tDisp [(ta, tv)]) σ H (ND [(Sum.inl n, v)]) := fun H1 e Q q p hp =>
  hk _ (e.trans (Ex.new hp)) _ fun H2 e2 => hv H2 ((e.trans (Ex.new hp)).trans e2) _ fun H3 e3 =>
    ⟨e3 _ _ (e2 _ _ upd_same), [(Sum.inl n, v)], rfl, (show 1 ≤ 15 by decide), q _ _ (Ex.mut (((Ex.new hp).trans e2).trans e3) hp) ⟨p, rfl, hp, upd_same⟩⟩
/-! ### tuple(..) of a new list; list(..) of a tuple -/
theorem eu_tupN {xs : List V} (ha : EvL ta σ H xs) : EvU (tCB (rTup K) (tCons ta tNil)) σ H xs := fun H1 e Q q =>
  ha H1 e _ fun p H2 _ e2 hp => ⟨p, xs, rfl, .inl ⟨sq_of hp, fun l hl => q l _ (fresh_back e2 hl) (e2.trans (Ex.new hl)) upd_same⟩⟩
theorem eu_tupL {xs : List V} {a : Addr} (ha : Ev ta σ H (.ref a)) (hx : SqL K H a xs) : EvU (tCB (rTup K) (tCons ta tNil)) σ H xs := fun H1 e Q q =>
  ha H1 e _ fun H2 e2 => ⟨a, xs, rfl, .inl ⟨ex_l (e.trans e2) hx, fun l hl => q l _ (fresh_back e2 hl) (e2.trans (Ex.new hl)) upd_same⟩⟩
/-! ### for over a dict's keys, the dict locked meanwhile -/
theorem s_forKT {i j : Nat} {kvs : List (List L2.Key × V)} (hv : σ[i]? = some (some (.ref d))) (hd : H d = some (.dT kvs)) (Pv : Obj → Nat → L2.St → Hp → Prop) (h0 : ∀ od, Pv od 0 σ (upd H d (.frz od (.dT kvs)))) (hP : ∀ od m σ' H', Pv od m σ' H' → H' d = some (.frz od (.dT kvs)))
    (hs : ∀ od m k v q σ' H', kvs[m]? = some (k, v) → H' q = some (.tup (k.map kV)) → Pv od m σ' H' →
      tu ⟨Pv od (m + 1), fun u H' => H' d = some (.frz od (.dT kvs)) ∧ D.rt u (upd H' d (.dT kvs)), fun σ' H' => H' d = some (.frz od (.dT kvs)) ∧ D.nx σ' (upd H' d (.dT kvs)), Pv od (m + 1)⟩ (σ'.set j (some (.ref q))) H')
    (hn : ∀ od σ' H', Pv od kvs.length σ' H' → D.nx σ' (upd H' d (.dT kvs))) : tLock (tFor (iKeys (tVar i)) (gName j) tu) D σ H :=
  ⟨d, .dT kvs, hd, trivial, fun od => ⟨.ref d, hv, d, od, rfl, .inr ⟨kvs, upd_same, for_it walk_keysT (Pv od) (h0 od) (fun m σ' H' _ p => hP od m σ' H' p) (fun m x σ' H' H2 hm p y => by
    obtain ⟨e, k, v, q, hk, ex, hq⟩ := y
    subst e ex
    exact hs od m k v q σ' _ hk hq p) (fun σ' H' p => ⟨hP od _ σ' H' p, hn od σ' H' p⟩)⟩⟩⟩
theorem s_forKK {i j : Nat} {kvs : List (L2.Key × V)} (hv : σ[i]? = some (some (.ref d))) (hd : H d = some (.dK kvs)) (Pv : Obj → Nat → L2.St → Hp → Prop) (h0 : ∀ od, Pv od 0 σ (upd H d (.frz od (.dK kvs)))) (hP : ∀ od m σ' H', Pv od m σ' H' → H' d = some (.frz od (.dK kvs)))
    (hs : ∀ od m k v σ' H', kvs[m]? = some (k, v) → Pv od m σ' H' →
      tu ⟨Pv od (m + 1), fun u H' => H' d = some (.frz od (.dK kvs)) ∧ D.rt u (upd H' d (.dK kvs)), fun σ' H' => H' d = some (.frz od (.dK kvs)) ∧ D.nx σ' (upd H' d (.dK kvs)), Pv od (m + 1)⟩ (σ'.set j (some (kV k))) H')
    (hn : ∀ od σ' H', Pv od kvs.length σ' H' → D.nx σ' (upd H' d (.dK kvs))) : tLock (tFor (iKeys (tVar i)) (gName j) tu) D σ H :=
  ⟨d, .dK kvs, hd, trivial, fun od => ⟨.ref d, hv, d, od, rfl, .inl ⟨kvs, upd_same, for_it walk_keys (Pv od) (h0 od) (fun m σ' H' _ p => hP od m σ' H' p) (fun m x σ' H' H2 hm p y => by
    obtain ⟨e, k, v, hk, ex⟩ := y
    subst e ex
    exact hs od m k v σ' _ hk p) (fun σ' H' p => ⟨hP od _ σ' H' p, hn od σ' H' p⟩)⟩⟩⟩
theorem q_forKT {i j : Nat} {kvs : List (List L2.Key × V)} (hv : σ[i]? = some (some (.ref d))) (hd : H d = some (.dT kvs)) (Pv : Obj → Nat → L2.St → Hp → Prop) (h0 : ∀ od, Pv od 0 σ (upd H d (.frz od (.dT kvs)))) (hP : ∀ od m σ' H', Pv od m σ' H' → H' d = some (.frz od (.dT kvs)))
    (hs : ∀ od m k v q σ' H', kvs[m]? = some (k, v) → H' q = some (.tup (k.map kV)) → Pv od m σ' H' →
      tu ⟨Pv od (m + 1), fun u H' => H' d = some (.frz od (.dT kvs)) ∧ D.rt u (upd H' d (.dT kvs)), fun σ' H' => H' d = some (.frz od (.dT kvs)) ∧ tz D σ' (upd H' d (.dT kvs)), Pv od (m + 1)⟩ (σ'.set j (some (.ref q))) H')
    (hn : ∀ od σ' H', Pv od kvs.length σ' H' → tz D σ' (upd H' d (.dT kvs))) : tSeq (tLock (tFor (iKeys (tVar i)) (gName j) tu)) tz D σ H := s_forKT (D := { D with nx := tz D }) hv hd Pv h0 hP hs hn
theorem q_forKK {i j : Nat} {kvs : List (L2.Key × V)} (hv : σ[i]? = some (some (.ref d))) (hd : H d = some (.dK kvs)) (Pv : Obj → Nat → L2.St → Hp → Prop) (h0 : ∀ od, Pv od 0 σ (upd H d (.frz od (.dK kvs)))) (hP : ∀ od m σ' H', Pv od m σ' H' → H' d = some (.frz od (.dK kvs)))
    (hs : ∀ od m k v σ' H', kvs[m]? = some (k, v) → Pv od m σ' H' →
      tu ⟨Pv od (m + 1), fun u H' => H' d = some (.frz od (.dK kvs)) ∧ D.rt u (upd H' d (.dK kvs)), fun σ' H' => H' d = some (.frz od (.dK kvs)) ∧ tz D σ' (upd H' d (.dK kvs)), Pv od (m + 1)⟩ (σ'.set j (some (kV k))) H')
    (hn : ∀ od σ' H', Pv od kvs.length σ' H' → tz D σ' (upd H' d (.dK kvs))) : tSeq (tLock (tFor (iKeys (tVar i)) (gName j) tu)) tz D σ H := s_forKK (D := { D with nx := tz D }) hv hd Pv h0 hP hs hn
end

theorem fresh_backS {ms : List Addr} {H H' : Hp} {p : Addr} (e : ExS ms H H') (hm : ∀ m ∈ ms, H' m ≠ none) (h : H' p = none) : H p = none := by
  cases h1 : H p with
  | none => rfl
  | some o =>
    have := e p o (fun z => hm p z h) h1
    rw [this] at h
    cases h
section
variable {σ : L2.St} {H : Hp} {tr : TA} {D : Ends} {tz : TS} {RA : List V → Hp → Prop}
/-- calls that change what they are handed -/
theorem q_asgS {sp : Sp} {dvs : List V} {E : XK} {i : Nat} (h : EvAX tr σ H RA) (k : ∀ vs H1, Ex H H1 → RA vs H1 → sp (vs ++ dvs) H1 (fun v H2 => tz D (σ.set i (some v)) H2) E) : tSeq (tAsg (tCall sp dvs E tr) (gName i)) tz D σ H :=
  h H (Ex.refl _) _ fun vs H1 e r => k vs H1 e r
theorem s_retS {sp : Sp} {dvs : List V} {E : XK} (h : EvAX tr σ H RA) (k : ∀ vs H1, Ex H H1 → RA vs H1 → sp (vs ++ dvs) H1 D.rt E) : tRet (tCall sp dvs E tr) D σ H :=
  h H (Ex.refl _) _ fun vs H1 e r => k vs H1 e r
end

section
variable {K : PySem.W.Frag} {σ : L2.St} {H H' : Hp} {td ty tv tx ta tb te : TE} {tl th : TO} {t : TT} {x y z v w : V} {D : Ends} {tu tz : TS} {R R1 R2 : Hp → V → Hp → Prop} {d b : Addr}
theorem el_slN {xs : List V} {lo hi : Option Int} (h : EvL te σ H xs) (h1 : EvO tl σ H lo) (h2 : EvO th σ H hi) : EvL (tSl (rSlL K) te tl th) σ H (cutV xs lo hi) := fun H1 e Q q =>
  h H1 e _ fun a H2 _ e2 ha => h1 H2 (e.trans e2) _ fun H3 e3 => h2 H3 ((e.trans e2).trans e3) _ fun H4 e4 =>
    ⟨a, xs, rfl, sq_of ((e3.trans e4) _ _ ha), fun p hp => q p _ (fresh_back ((e2.trans e3).trans e4) hp) (((e2.trans e3).trans e4).trans (Ex.new hp)) upd_same⟩
theorem cut_take (xs : List V) (n : Nat) : cutV xs none (some (n : Int)) = xs.take n := by
  unfold cutV
  rw [HT.sIx_none, HT.sIx_nat, List.drop_zero, Nat.sub_zero, ← List.take_eq_take_min]
theorem el_rev {xs : List V} {a : Addr} (h : Ev te σ H (.ref a)) (hx : SqL K H a xs) : EvL (tRevL K te) σ H xs.reverse := fun H1 e Q q =>
  h H1 e _ fun H2 e2 => ⟨a, xs, rfl, ex_l (e.trans e2) hx, fun p hp => q p _ (fresh_back e2 hp) (e2.trans (Ex.new hp)) upd_same⟩
theorem kRev {X : Cx} {e : Expr} {te : TE} {k : Nat} {p1 p2 p3 pos : Pos} (h : X.K = K) (he : PE X e te) : PE X (.Subscript e (.Slice none none (some (.UnaryOp .USub (.Constant (.int 1) k p1) p2)) p3) pos) (tRevL K te) := h ▸ pe_revL he
theorem q_parXX {i j : Nat} (h1 : EvX ta σ H R1) (h2 : ∀ H0 v H1, Ex H H1 → R1 H0 v H1 → EvX tb σ H1 R2) (k : ∀ v w H1 H2, Ex H H1 → Ex H1 H2 → R1 H v H1 → R2 H1 w H2 → tz D ((σ.set i (some v)).set j (some w)) H2) : tSeq (tPar i j (tCons ta (tCons tb tNil))) tz D σ H :=
  h1 H (Ex.refl _) _ fun v H1 e1 r1 => h2 H v H1 e1 r1 H1 (Ex.refl _) _ fun w H2 e2 r2 => ⟨v, w, rfl, k v w H1 H2 e1 e2 r1 r2⟩
theorem ev_minK {kvs : List (L2.Key × V)} {is : List Int} (ha : Ev ta σ H (.ref d)) (hd : H d = some (.dK kvs)) (hk : kvs.map (·.1) = is.map Sum.inl) (hne : 0 < is.length) : Ev (tCB rMinK (tCons ta tNil)) σ H (.int (minL is)) := fun H1 e Q q =>
  ha H1 e _ fun H2 e2 => ⟨d, kvs, is, rfl, (e.trans e2) _ _ hd, hk, fun z => by rw [z] at hne; exact Nat.lt_irrefl _ hne, fun m h1 h2 => by
    rw [min_one hne h1 h2]
    exact q H2 e2⟩
end

/-! ### lists of lists -/
def LL (H : Hp) (vs : List V) (ks : List (List Int)) : Prop := Paired (fun (v : V) (k : List Int) => ∃ p, v = .ref p ∧ H p = some (.lst (k.map V.int))) vs ks
theorem LL.mono {H H' : Hp} : ∀ {vs : List V} {ks : List (List Int)}, (∀ (p : Addr) (k : List Int), V.ref p ∈ vs → H p = some (.lst (k.map V.int)) → H' p = some (.lst (k.map V.int))) → LL H vs ks → LL H' vs ks
  | _, _, _, .nil => .nil
  | _, _, e, .cons ⟨p, h1, h2⟩ r => .cons ⟨p, h1, e p _ (by rw [h1]; exact List.mem_cons_self) h2⟩ (LL.mono (fun p k hp => e p k (List.mem_cons_of_mem _ hp)) r)
theorem LL.ex {H H' : Hp} {vs : List V} {ks : List (List Int)} (h : LL H vs ks) (e : Ex H H') : LL H' vs ks := LL.mono (fun p k _ hp => e _ _ hp) h
theorem LL.len {H : Hp} : ∀ {vs : List V} {ks : List (List Int)}, LL H vs ks → vs.length = ks.length
  | _, _, .nil => rfl
  | _, _, .cons _ r => by rw [List.length_cons, List.length_cons, LL.len r]
theorem LL.get {H : Hp} : ∀ {vs : List V} {ks : List (List Int)} {i : Nat} {v : V}, LL H vs ks → vs[i]? = some v → ∃ (k : List Int) (p : Addr), ks[i]? = some k ∧ v = .ref p ∧ H p = some (.lst (k.map V.int))
  | _, _, _, _, .nil, e => by simp at e
  | _, _, 0, _, .cons ⟨p, h1, h2⟩ _, e => by
    rw [List.getElem?_cons_zero] at e
    cases e
    exact ⟨_, p, rfl, h1, h2⟩
  | _, _, i + 1, _, .cons _ r, e => by
    rw [List.getElem?_cons_succ] at e
    obtain ⟨k, p, h1, h2, h3⟩ := LL.get r e
    exact ⟨k, p, by rw [List.getElem?_cons_succ]; exact h1, h2, h3⟩
theorem LL.append {H : Hp} : ∀ {vs ws : List V} {ks ls : List (List Int)}, LL H vs ks → LL H ws ls → LL H (vs ++ ws) (ks ++ ls)
  | _, _, _, _, .nil, s => s
  | _, _, _, _, .cons a r, s => .cons a (LL.append r s)
theorem LL.mem {H : Hp} : ∀ {vs : List V} {ks : List (List Int)} {v : V}, LL H vs ks → v ∈ vs → ∃ (p : Addr) (k : List Int), v = .ref p ∧ H p = some (.lst (k.map V.int))
  | _, _, _, .nil, h => by cases h
  | _, _, v, .cons (b := k) ⟨p, h1, h2⟩ r, h => by
    rcases List.mem_cons.mp h with e | h
    · exact ⟨p, k, e.trans h1, h2⟩
    · exact LL.mem r h
section
variable {K : PySem.W.Frag} {σ : L2.St} {H H' : Hp} {ta te : TE} {D : Ends} {tz : TS} {d : Addr}
theorem ei_keysT {kvs : List (List L2.Key × V)} {od : Obj} (h : Ev ta σ H (.ref d)) (hd : H d = some (.frz od (.dT kvs))) : EvI (iKeys ta) σ H kvs.length (fun Y _ => Y = fun i H x H' => H' = H ∧ ∃ (k : List L2.Key) (v : V) (q : Addr), kvs[i]? = some (k, v) ∧ x = .ref q ∧ H q = some (.tup (k.map kV))) := fun H1 e R k =>
  h H1 e _ fun H2 e2 => ⟨d, od, rfl, .inr ⟨kvs, (e.trans e2) _ _ hd, k _ _ H2 e2 ⟨_, walk_keysT, fun _ e3 => ((e.trans e2).trans e3) _ _ hd⟩ rfl⟩⟩
/-- name = [list(k) for k in d], the keys tuples of whole numbers -/
theorem s_lcLists {i j l : Nat} {vs : List Nat} {kvs : List (List L2.Key × V)} {ks : List (List Int)} (hv : σ[i]? = some (some (.ref d))) (hd : H d = some (.dT kvs)) (hk : kvs.map (·.1) = ks.map kI) (hn : kvs.length ≤ 15000000)
    (hw : ∀ x, wipe ((wipe σ vs).set j (some x)) vs = wipe σ vs) (hj : ∀ x, ((wipe σ vs).set j (some x))[j]? = some (some x)) (k : ∀ p ws H1, H p = none → Ex H H1 → H1 p = some (.lst ws) → LL H1 ws ks → D.nx (σ.set l (some (.ref p))) H1) :
    tLock (tAsg (tLc (iKeys (tVar i)) (gName j) tYes (tCB (rListS K) (tCons (tVar j) tNil)) vs) (gName l)) D σ H := by
  refine ⟨d, .dT kvs, hd, trivial, fun od => ?_⟩
  have hkl : kvs.length = ks.length := by
    have := congrArg List.length hk
    rw [List.length_map, List.length_map] at this
    exact this
  have P : EvX (tLc (iKeys (tVar i)) (gName j) tYes (tCB (rListS K) (tCons (tVar j) tNil)) vs) σ (upd H d (.frz od (.dT kvs))) _ :=
    ex_lc (fun Dl m acc H' => Paired (fun (v : V) (k : List Int) => ∃ p, v = .ref p ∧ p ≠ Dl ∧ H' p = some (.lst (k.map V.int))) acc (ks.take m)) (ei_keysT (ev_var hv) upd_same) hn
      (fun Dl m acc acc' H1 H2 hD hs p => Paired.mapP p fun v k ⟨q, h1, h2, h3⟩ => ⟨q, h1, h2, hs q _ h2 h3⟩) (fun _ _ _ _ _ _ _ _ => .nil)
      (fun Dl Y H0 m x acc H1 H2 e0 hS e1 hm ha hp y => by
        subst hS
        obtain ⟨rfl, k', v, q, h1, rfl, h2⟩ := y
        obtain ⟨c, hc, rfl⟩ : ∃ c, ks[m]? = some c ∧ k' = kI c := by
          have h3 : (kvs.map (·.1))[m]? = some k' := by rw [List.getElem?_map, h1]; rfl
          rw [hk, List.getElem?_map] at h3
          cases e : ks[m]? with
          | none => rw [e] at h3; cases h3
          | some c => rw [e] at h3; exact ⟨c, rfl, (Option.some.inj h3).symm⟩
        rw [kI_V] at h2
        refine ⟨hw _, Ex.refl _, true, et_yes, (fun z => nomatch z), fun _ H4 e4 => ?_⟩
        intro H5 e5 Q q'
        refine el_listT (ev_var (hj _)) (st_of (e4 _ _ h2)) H5 e5 Q fun p H6 hp0 e6 h6 => q' _ H6 e6 ?_
        rw [List.take_add_one, hc]
        have hD5 : H5 Dl = some (.lst acc) := e5 _ _ (e4 _ _ ha)
        refine Paired.snoc (Paired.mapP hp fun v k ⟨r, g1, g2, g3⟩ => ⟨r, g1, g2, e6 _ _ (e5 _ _ (e4 _ _ g3))⟩) ⟨p, rfl, fun z => ?_, h6⟩
        rw [z, hD5] at hp0
        cases hp0) gm_name
  refine P _ (Ex.refl _) _ fun v H1 e1 hv => ?_
  obtain ⟨p, acc, rfl, hp0, hp, hl, hP⟩ := hv
  have hd1 := e1 _ _ (upd_same (H := H) (a := d) (o := .frz od (.dT kvs)))
  have pd : p ≠ d := fun z => by rw [z, upd_same] at hp0; cases hp0
  refine ⟨hd1, k p acc _ ?_ (fun a o ha => ?_) ?_ ?_⟩
  · rw [upd_ne pd] at hp0
    exact hp0
  · by_cases h : a = d
    · rw [h, upd_same, ← hd, ← h, ha]
    · rw [upd_ne h]
      exact e1 _ _ (by rw [upd_ne h]; exact ha)
  · rw [upd_ne pd]
    exact hp
  · rw [hkl, List.take_length] at hP
    refine Paired.mapP hP fun v k ⟨r, g1, _, g3⟩ => ⟨r, g1, ?_⟩
    rw [upd_ne (ne_of g3 hd1 (fun z => nomatch z))]
    exact g3
end
end Lw

set_option Elab.async false
set_option linter.all false
set_option maxRecDepth 100000
set_option maxHeartbeats 4000000
/-! W2: objects. -/
namespace Lw
open PySem PySem.Spec PyProof.Rows L2 Evl

section
variable {X : Cx}
theorem pt_chain3 {a b c d : Expr} {ta tb tc td : TE} {pos : Pos} {op op' op'' : CmpOp} {r r' r'' : R2} (ho : OpR X (compareOp op) r) (ho' : OpR X (compareOp op') r') (ho'' : OpR X (compareOp op'') r'') (ha : PE X a ta) (hb : PE X b tb) (hc : PE X c tc) (hd : PE X d td)
    (hm : lastMarks [op, op', op''] [b, c, d] = false := by with_unfolding_all rfl) : PT X (.Compare a [op, op', op''] [b, c, d] pos) (tTest (tChain3 r r' r'' ta tb tc td)) := by
  refine ⟨fun pins s σ H Q I h => ?_⟩
  refine isTrue_chain (thn (ha.run pins s σ H _ I h) fun v s1 ⟨x, H1, I1, r1, q1⟩ => test_link (thn (hb.run pins s1 σ H1 _ I1 q1) fun u s2 ⟨y, H2, I2, r2, q2⟩ =>
    thn (ho pins s2 σ H2 x y v u _ I2 r1 r2 q2) fun d s3 ⟨z, H3, I3, r3, k, e, q3⟩ => ?_)) hm
  subst e
  cases r3
  refine wpAny_truthy_bool ?_
  cases k with
  | false =>
    obtain ⟨k', e', q'⟩ := q3
    cases e'
    exact ite_ff ⟨H3, I3, q'⟩
  | true =>
    refine ite_tt (test_link (thn (hc.run pins s3 σ H3 _ I3 q3) fun w' s4 ⟨y2, H4, I4, r4, q4⟩ => thn (ho' pins s4 σ H4 y y2 u w' _ I4 r2 r4 q4) fun d' s5 ⟨z2, H5, I5, r5, k2, e2, q5⟩ => ?_))
    subst e2
    cases r5
    refine wpAny_truthy_bool ?_
    cases k2 with
    | false =>
      obtain ⟨k', e', q'⟩ := q5
      cases e'
      exact ite_ff ⟨H5, I5, q'⟩
    | true =>
      refine ite_tt (test_last (thn (hd.run pins s5 σ H5 _ I5 q5) fun w3 s6 ⟨y3, H6, I6, r6, q6⟩ => thn (ho'' pins s6 σ H6 y2 y3 w' w3 _ I6 r4 r6 q6) fun d3 s7 ⟨z3, H7, I7, r7, k3, e3, q7⟩ => ?_))
      subst e3
      cases r7
      exact wpAny_truthy_bool ⟨H7, I7, q7⟩
end
/-! ### C() of a class without an own maker -/
structure Mk0 (K : PySem.W.Frag) (C : Addr) : Prop where
  makes : PySem.W.makesIn K C = true
  init : PySem.W.findIn K (.ref C) "__init__" = some (some (.builtin "object.__init__"))
  top : PySem.W.mroIn K C (.type "object") = some true
  kp : PySem.W.keepIn K (.ref C) = true
def tMk0 (C : Addr) : TE := fun σ H Q => ∀ x dx, H x = none → H dx = none → dx ≠ x → Q (.ref x) (upd (upd H dx (.own x)) x (.ins C dx []))
section
variable {X : Cx} {C : Addr}
theorem run_make0 {pins : List (Addr × Obj)} {σ : L2.St} {H : Hp} {s : Shared} {Q : VK} (M : Mk0 X.K C) (I : L2.Inv X pins σ H s)
    (h : ∀ x dx, H x = none → H dx = none → dx ≠ x → Q (.ref x) (upd (upd H dx (.own x)) x (.ins C dx []))) : wpAny (model X.prog X.w) X.A (call (.ref C) []) (EP X pins σ Q) X.xe s := by
  have hq := h (s.heap.objs.size + 1) s.heap.objs.size (I.hok.fresh (Nat.le_succ _)) (I.hok.fresh (Nat.le_refl _)) (Nat.ne_of_lt (Nat.lt_succ_self _))
  have I2 := Inv.made (C := C) I
  refine wpAny_call (make_map0 I.kIn M.makes M.init (fun self => PySem.W.Looks.of_pure (PySem.W.oi_bind self)) ?_)
  have ho : ((s.heap.push PySem.W.emptyDict).push (PySem.W.instObj C s.heap.objs.size)).get? (s.heap.objs.size + 1) = some (PySem.W.instObj C s.heap.objs.size) := by
    rw [← Heap.size_push s.heap PySem.W.emptyDict]
    exact Heap.get?_push_size _ rfl
  have t1 : PySem.W.Looks (model X.prog X.w) ((s.heap.push PySem.W.emptyDict).push (PySem.W.instObj C s.heap.objs.size)) (typeOf (.ref (s.heap.objs.size + 1))) (.ref C) := (PySem.W.Looks.ld ho).andThen .now
  have t2 : PySem.W.Looks (model X.prog X.w) ((s.heap.push PySem.W.emptyDict).push (PySem.W.instObj C s.heap.objs.size)) (isInstance (.ref (s.heap.objs.size + 1)) (.type "object")) true := t1.andThen (PySem.W.looks_mroIn I2.kIn M.top)
  refine codeAny_call_builtin PySem.W.oi_plain PySem.W.entry_oi (@PySem.W.check_slot (model X.prog X.w) _ _ _ "object.__init__" "object" "__init__" (.ref (s.heap.objs.size + 1)) [] [] _ PySem.W.oi_kind PySem.W.oi_split t2 (PySem.W.oi_args (.ref (s.heap.objs.size + 1))) ?_)
  rw [PySem.W.oi_run]
  exact wpAny_pure (And.intro rfl ⟨V.ref (s.heap.objs.size + 1), _, I2, rfl, hq⟩)
theorem pe_mk0 {x : Str} {p pos : Pos} (M : Mk0 X.K C) (hg : Gl X x) (hm : X.mg x = some (.ref C)) (hdb : (x == ("__debug__" : Str)) = false := by decide) : PE X (.Call (.Name x p) [] [] pos) (tMk0 C) := by
  refine ⟨fun pins s σ H Q I h => ?_⟩
  refine wpAny_Call_Name_kw (ld_glob I hg hm ?_ hdb)
  exact PySem.W.callWith_K0 I.kIn M.kp (run_make0 M I h)
end
/-! ### classes, methods -/
theorem kit_own {K : PySem.W.Frag} {C C2 : Addr} {b : Bool} (h1 : PySem.W.isClsIn K C2 = true) (h2 : PySem.W.typeIn K (.ref C2) = some (.type "type")) (h3 : PySem.W.subIn K (.ref C) (.ref C2) = some b) (hb : C = C2 → b = true) : PySem.W.kitOne K (.ref C) (.ref C2) = some b := by
  unfold PySem.W.kitOne
  by_cases e : C = C2
  · subst e
    rw [if_pos (beq_self_eq_true _), hb rfl]
  · rw [if_neg (fun z => e (Value.ref.inj (eq_of_beq z)))]
    show (if ((PySem.W.clsIn K C2).isSome && PySem.W.typeIn K (.ref C2) == some (.type "type")) = true then PySem.W.subIn K (.ref C) (.ref C2) else none) = some b
    rw [h2, if_pos (by rw [show (PySem.W.clsIn K C2).isSome = true from h1]; simp), h3]
theorem kit_self {K : PySem.W.Frag} {C : Addr} : PySem.W.kitOne K (.ref C) (.ref C) = some true := if_pos (beq_self_eq_true _)
structure Kc (K : PySem.W.Frag) (mg : Str → Option Value) (x : Str) (C : Addr) : Prop where
  g : mg x = some (.ref C)
  cl : Cls K C
  ha : PySem.W.findIn K (.ref C) "__class__" = some (some (.builtin "object.__class__"))
  hn : PySem.W.specialIn K (.builtin "object.__class__") "__get__" = some (some (.builtin "getset_descriptor.__get__"))
  htk : PySem.W.takesIn K (.builtin "object.__class__") = some true
  hm : PySem.W.mroIn K C (.type "object") = some true
structure Dm (K : PySem.W.Frag) (m q : Str) (st : Stmt) (ps : List Str) (f : Addr) (fd : FuncData) : Prop where
  F : Fun K m q st f fd
  b : Binds K fd ps []
structure Me (P : Program) (w : World) (K : PySem.W.Frag) (mg : Str → Option Value) (base : Heap) (CX : CXT) (k : Nat) (C : Addr) (m q : Str) (st : Stmt) (ps : List Str) (sp : Sp) (f : Addr) (fd : FuncData) : Prop where
  D : Dm K m q st ps f fd
  cl : Cls K C
  m : Meth K C m f
  G : FnOk P w K mg base CX k f fd ps sp
section
variable {K : PySem.W.Frag} {mg : Str → Option Value} {σ : L2.St} {H H' : Hp} {td ty tv tx ta tb te tl : TE} {t : TT} {x y z v w : V} {D : Ends} {tu tz : TS} {R : Hp → V → Hp → Prop} {tr : TA} {RA : List V → Hp → Prop}
theorem Kc.isTy {n : Str} {C a dx : Addr} {fs : List (Str × V)} (k : Kc K mg n C) (e : H a = some (.ins C dx fs)) : TyX K H (.ref a) (.ref C) := .base (.ins e k.cl k.ha k.hn k.htk k.hm)
/-- isinstance(x, C), C an own class -/
theorem ev_isiO {u : Value} {C : Addr} {b : Bool} (ha : Ev ta σ H x) (hb : Ev tb σ H (.ref C)) (hx : ∀ H1, Ex H H1 → TyX K H1 x u) (hk : PySem.W.kitOne K u (.ref C) = some b) : Ev (tCB (rIsi K) (tCons ta (tCons tb tNil))) σ H (.bl b) := fun H1 e Q q =>
  ha H1 e _ fun H2 e2 => hb H2 (e.trans e2) _ fun H3 e3 => ⟨x, .ref C, u, .ref C, b, rfl, .own C, hx H3 ((e.trans e2).trans e3), hk, q H3 (e2.trans e3)⟩
theorem ev_fld {C r dx : Addr} {fs : List (Str × V)} {f : Str} (ha : Ev ta σ H (.ref r)) (hr : H r = some (.ins C dx fs)) (cl : Cls K C) (n : NoAttr K C f) (hv : fs.lookup f = some v) : Ev (tFld K ta f) σ H v := fun H1 e Q q =>
  ha H1 e _ fun H2 e2 => ⟨r, C, dx, fs, v, rfl, (e.trans e2) _ _ hr, cl, n, hv, q H2 e2⟩
theorem ev_meth {C r dx : Addr} {fs : List (Str × V)} {m : Str} {sp : Sp} {dvs vs : List V} {E : XK} (ha : Ev ta σ H (.ref r)) (hr : H r = some (.ins C dx fs)) (hm : fs.lookup m = none) (h : EvA tr σ H vs) (hs : SpV sp (.ref r :: (vs ++ dvs)) H z) : Ev (tMeth C m sp dvs E ta tr) σ H z := fun H1 e Q q =>
  ha H1 e _ fun H2 e2 => ⟨r, dx, fs, rfl, (e.trans e2) _ _ hr, hm, h H2 (e.trans e2) _ fun H3 e3 => hs H3 ((e.trans e2).trans e3) Q (fun H4 e4 => q H4 ((e2.trans e3).trans e4)) E⟩
/-- x in a new dict -/
theorem eax_consB {S : Hp → V → Hp → Prop} (hB : Back S) (h : EvX te σ H S) (hr : ∀ v H1, Ex H H1 → S H v H1 → EvAX tr σ H1 (fun ws H2 => RA (v :: ws) H2)) : EvAX (tCons te tr) σ H RA := fun H1 e Q q =>
  h H1 e _ fun v H2 e2 s => hr v H2 (e.trans e2) (hB _ _ _ _ e s) H2 (Ex.refl _) _ fun ws H3 e3 r => q _ H3 (e2.trans e3) r
theorem q_par3 {i j l : Nat} (h : EvAX tr σ H RA) (k : ∀ vs H1, Ex H H1 → RA vs H1 → ∃ a b c, vs = [a, b, c] ∧ tz D (((σ.set i (some a)).set j (some b)).set l (some c)) H1) : tSeq (tPar3 i j l tr) tz D σ H := h H (Ex.refl _) _ fun vs H1 e r => k vs H1 e r
end
/-! ### evaluations that change what is tracked -/
def EvXS (te : TE) (σ : L2.St) (H : Hp) (R : V → Hp → Prop) : Prop := ∀ Q : VK, (∀ v H1, R v H1 → Q v H1) → te σ H Q
def EvTS (t : TT) (σ : L2.St) (H : Hp) (R : Bool → Hp → Prop) : Prop := ∀ Q : Bool → Hp → Prop, (∀ b H1, R b H1 → Q b H1) → t σ H Q
section
variable {K : PySem.W.Frag} {mg : Str → Option Value} {σ : L2.St} {H H' : Hp} {td ty tv tx ta tb te tl : TE} {t : TT} {x y z v w : V} {D : Ends} {tu tw tz : TS} {R : V → Hp → Prop} {tr : TA} {RA : List V → Hp → Prop}
theorem q_whenS {R : Bool → Hp → Prop} (h : EvTS t σ H R) (h1 : ∀ H1, R true H1 → tu { D with nx := tz D } σ H1) (h2 : ∀ H1, R false H1 → tz D σ H1) : tSeq (tIfS t tu tNext) tz D σ H := h _ fun b H1 r => by
  cases b with
  | true => exact h1 H1 r
  | false => exact h2 H1 r
theorem s_whenS {R : Bool → Hp → Prop} (h : EvTS t σ H R) (h1 : ∀ H1, R true H1 → tu D σ H1) (h2 : ∀ H1, R false H1 → D.nx σ H1) : tIfS t tu tNext D σ H := h _ fun b H1 r => by
  cases b with
  | true => exact h1 H1 r
  | false => exact h2 H1 r
theorem xs_ev (h : Ev te σ H v) : EvXS te σ H (fun w H1 => w = v ∧ Ex H H1) := fun Q q => h H (Ex.refl _) Q fun H1 e => q _ _ ⟨rfl, e⟩
/-- f(..), f changing what it is handed -/
theorem xs_call {sp : Sp} {dvs : List V} {E : XK} (h : EvAX tr σ H RA) (hs : ∀ vs H1, Ex H H1 → RA vs H1 → ∀ Q : VK, (∀ v H2, R v H2 → Q v H2) → sp (vs ++ dvs) H1 Q E) : EvXS (tCall sp dvs E tr) σ H R := fun Q q =>
  h H (Ex.refl _) _ fun vs H1 e r => hs vs H1 e r Q q
theorem ts_din {n : Int} {S : Bool → Hp → Prop} (hk : Ev ty σ H (.int n)) (hd : ∀ H1, Ex H H1 → EvXS td σ H1 (fun v H2 => ∃ r es, v = .ref r ∧ H2 r = some (.dK es) ∧ S (valV es (Sum.inl n : L2.Key)).isSome H2)) : EvTS (tB (tDIn ty td)) σ H S := fun Q q =>
  hk H (Ex.refl _) _ fun H1 e1 => hd H1 e1 _ fun v H2 ⟨r, es, ev, hr, s⟩ => ⟨r, _, ev, .inl ⟨es, Sum.inl n, .inl hr, rfl, rfl⟩, _, rfl, q _ _ s⟩
theorem ts_dnin {n : Int} {S : Bool → Hp → Prop} (hk : Ev ty σ H (.int n)) (hd : ∀ H1, Ex H H1 → EvXS td σ H1 (fun v H2 => ∃ r es, v = .ref r ∧ H2 r = some (.dK es) ∧ S (!(valV es (Sum.inl n : L2.Key)).isSome) H2)) : EvTS (tB (tDNotIn ty td)) σ H S := fun Q q =>
  hk H (Ex.refl _) _ fun H1 e1 => hd H1 e1 _ fun v H2 ⟨r, es, ev, hr, s⟩ => ⟨r, _, ev, .inl ⟨es, Sum.inl n, .inl hr, rfl, rfl⟩, _, rfl, q _ _ s⟩
theorem xs_any {S : Bool → Hp → Prop} (h : EvXS ta σ H (fun v H1 => ∃ (p : Addr) (bs : List Bool), v = .ref p ∧ H1 p = some (.lst (bs.map V.bl)) ∧ S (bs.any id) H1)) : EvXS (tCB (rAny K) (tCons ta tNil)) σ H (fun v H1 => ∃ b, v = .bl b ∧ S b H1) := fun Q q =>
  h _ fun v H1 ⟨p, bs, ev, hp, s⟩ => ⟨p, bs, by rw [ev], sq_of hp, q _ _ ⟨_, rfl, s⟩⟩
theorem s_dputTS {b d : Addr} {ns : List Int} (hv : EvXS tv σ H R) (k : ∀ v H1, R v H1 → ∃ kvs, Ev td σ H1 (.ref d) ∧ Ev ty σ H1 (.ref b) ∧ H1 b = some (.tup (ns.map V.int)) ∧ H1 d = some (.dT kvs) ∧ kvs.length < 16000000 ∧ ∀ H2, Ex H1 H2 → D.nx σ (upd H2 d (.dT (putK kvs (kI ns) v)))) : sDPut td ty tv D σ H :=
  hv _ fun v H1 r => by
    obtain ⟨kvs, hd, hk, hb, hD, hl, k⟩ := k v H1 r
    exact hd H1 (Ex.refl _) _ fun H2 e2 => hk H2 e2 _ fun H3 e3 => ⟨d, _, rfl, DPut.t (k := kI ns) ((e2.trans e3) _ _ hD) (by rw [kI_V]; exact (e2.trans e3) _ _ hb) (sz10 hl), k H3 (e2.trans e3)⟩
/-- a comprehension over a new list of pairs, its items changing a dict with tuples as keys -/
theorem xs_lcP {ps : List (Int × Int)} {j : Nat} {vs : List Nat} {d : Addr} {kvs0 : List (List L2.Key × V)} (h : EvX tl σ H (NP ps)) (hd : H d = some (.dT kvs0)) (hn : ps.length ≤ 15000000) (hw : ∀ x, wipe ((wipe σ vs).set j (some x)) vs = wipe σ vs) (Pv : Nat → List V → Hp → Prop)
    (h0 : ∀ H1, Ex H H1 → Pv 0 [] H1) (stay : ∀ i acc H1 D o, H D = none → Pv i acc H1 → Pv i acc (upd H1 D o))
    (step : ∀ i (q : Int × Int) t acc H1, ps[i]? = some q → ExS [d] H H1 → H1 t = some (.tup [.int q.1, .int q.2]) → Pv i acc H1 → EvXS te ((wipe σ vs).set j (some (.ref t))) H1 (fun v H2 => ExS [d] H1 H2 ∧ Pv (i + 1) (acc ++ [v]) H2)) :
    EvXS (tLc (iList K tl) (gName j) tYes te vs) σ H (fun v H1 => ∃ p acc, v = .ref p ∧ H p = none ∧ ExS [d] H H1 ∧ H1 p = some (.lst acc) ∧ Pv ps.length acc H1) := fun Q q => by
  refine h H (Ex.refl _) _ fun v H1 e1 hv => ?_
  obtain ⟨p, xs, rfl, hp0, hp, hr⟩ := hv
  refine ⟨p, rfl, ⟨xs, sq_of hp⟩, fun Dl hD => ?_⟩
  have hDn : H Dl = none := fresh_back e1 hD
  have hd1 := e1 _ _ hd
  have pd : p ≠ d := ne_of hp hd1 (fun z => nomatch z)
  have Dd : Dl ≠ d := fun z => by rw [z, hd1] at hD; cases hD
  refine lc_it (n := xs.length) walk_list (fun i H' => ExS [d] H1 H' ∧ ∃ acc, H' Dl = some (.lst acc) ∧ acc.length ≤ i ∧ Pv i acc H')
    ⟨ExS.of (Ex.new hD), [], upd_same, Nat.zero_le _, h0 _ (e1.trans (Ex.new hD))⟩ (fun i H' _ ⟨s, _⟩ => sq_of (s p _ (by simp only [List.mem_singleton]; exact pd) hp)) (fun i x H2 H3 hi ⟨s, acc, ha, hl, hpv⟩ y => ?_) (fun H' ⟨s, acc, ha, hl, hpv⟩ => ?_)
  · obtain ⟨rfl, hx⟩ := y
    obtain ⟨pr, t, hpr, rfl, ht⟩ := hr.get hx
    have hlen := hr.len
    refine ⟨hw _, ?_⟩
    show te _ _ _
    have htd : t ≠ d := ne_of ht hd1 (fun z => nomatch z)
    refine step i pr t acc H3 hpr ((ExS.of e1).trans s) (s t _ (by simp only [List.mem_singleton]; exact htd) ht) hpv _ fun v H4 ⟨s4, p4⟩ => ?_
    refine ⟨acc, s4 Dl _ (by simp only [List.mem_singleton]; exact Dd) ha, Nat.lt_of_lt_of_le (show acc.length < 16000000 by omega) (by decide), fun a o hn2 ho => ?_, acc ++ [v], upd_same, by rw [List.length_append, List.length_singleton]; omega, stay _ _ _ _ _ hDn p4⟩
    rw [upd_ne (fun z => by rw [z, hD] at ho; cases ho)]
    exact s4 a o hn2 (s a o hn2 ho)
  · rw [hr.len] at hpv
    exact q _ H' ⟨Dl, acc, rfl, hDn, (ExS.of e1).trans s, ha, hpv⟩
/-- x in a new dict of counts, as a value -/
theorem ev_dinN {n : Int} {R : Hp → V → Hp → Prop} {b : Bool} (hk : Ev ty σ H (.int n)) (hd : EvX td σ H R) (hR : ∀ H1 v H2, R H1 v H2 → ∃ r es, v = .ref r ∧ H2 r = some (.dK es) ∧ (valV es (Sum.inl n : L2.Key)).isSome = b) : Ev (tDIn ty td) σ H (.bl b) := fun H1 e Q q =>
  hk H1 e _ fun H2 e2 => hd H2 (e.trans e2) _ fun v H3 e3 r => by
    obtain ⟨r, es, ev, hr, hb⟩ := hR _ _ _ r
    exact ⟨r, _, ev, .inl ⟨es, Sum.inl n, .inl hr, rfl, rfl⟩, by rw [hb]; exact q H3 (e2.trans e3)⟩
theorem ev_dninN {n : Int} {R : Hp → V → Hp → Prop} {b : Bool} (hk : Ev ty σ H (.int n)) (hd : EvX td σ H R) (hR : ∀ H1 v H2, R H1 v H2 → ∃ r es, v = .ref r ∧ H2 r = some (.dK es) ∧ (!(valV es (Sum.inl n : L2.Key)).isSome) = b) : Ev (tDNotIn ty td) σ H (.bl b) := fun H1 e Q q =>
  hk H1 e _ fun H2 e2 => hd H2 (e.trans e2) _ fun v H3 e3 r => by
    obtain ⟨r, es, ev, hr, hb⟩ := hR _ _ _ r
    exact ⟨r, _, ev, .inl ⟨es, Sum.inl n, .inl hr, rfl, rfl⟩, by rw [hb]; exact q H3 (e2.trans e3)⟩
theorem dp_bls : ∀ bs : List Bool, DpAll K H (bs.map V.bl) (bs.map PyData.bool)
  | [] => .nil
  | n :: ns => .cons (.bl n) (dp_bls ns)
theorem ed_lb {bs : List Bool} (h : EvL te σ H (bs.map V.bl)) : EvD K te σ H bs := fun H1 e Q q => h H1 e Q fun p H2 _ e2 hp => q _ H2 e2 (.lst (sq_of hp) (dp_bls bs))
/-- is of truths -/
theorem rv_notB {a b : Bool} : RV rNotB (.bl a) (.bl b) H (.bl (!decide (a = b))) := fun H1 _ _ q => ⟨a, b, rfl, rfl, q H1 (Ex.refl H1)⟩
theorem rv_isB {a b : Bool} : RV rIsB (.bl a) (.bl b) H (.bl (decide (a = b))) := fun H1 _ _ q => ⟨a, b, rfl, rfl, q H1 (Ex.refl H1)⟩
theorem s_forNLn {xs : List V} {tl : TE} {j : Nat} (h : EvL tl σ H xs) (Pv : Addr → Nat → L2.St → Hp → Prop) (h0 : ∀ p H1, H p = none → Ex H H1 → H1 p = some (.lst xs) → Pv p 0 σ H1) (hl : ∀ p i σ' H', i ≤ xs.length → Pv p i σ' H' → SqL K H' p xs)
    (hs : ∀ p i x σ' H', xs[i]? = some x → Pv p i σ' H' → tu { D with nx := Pv p (i + 1), ct := Pv p (i + 1), bk := D.nx } (σ'.set j (some x)) H') (hd : ∀ p σ' H', Pv p xs.length σ' H' → D.nx σ' H') : tFor (iList K tl) (gName j) tu D σ H := s_forNL h Pv h0 hl hs hd
theorem at_lastI {ns : List Int} (h : 0 < ns.length) : atI (ns.map V.int) (-1) = some (.int (ns.getD (ns.length - 1) 0)) := by
  have e : ixN (ns.map V.int).length (-1) = some (ns.length - 1) := by
    unfold ixN
    rw [List.length_map, if_neg (by decide), if_pos (by omega)]
    congr 1
    omega
  unfold atI
  rw [e]
  show (ns.map V.int)[ns.length - 1]? = _
  rw [List.getElem?_map, List.getElem?_eq_getElem (by omega), List.getD_eq_getElem?_getD, List.getElem?_eq_getElem (by omega)]
  rfl
end
end Lw

namespace Lw
open PySem PySem.Spec PyProof.Rows L2 Evl
def topS (i : Nat) : Stmt := PySem.Challenge.pw_lastleft_k05_whole_rows.main.body.getD i (.Pass ⟨0, 0, 0, 0⟩)
abbrev s_is_whole : Stmt := topS 6
theorem sc_is_whole : FnScope ["thing"] ["thing"] (defScope s_is_whole) := ⟨rfl, rfl, rfl, by decide +kernel, rfl, by decide +kernel, by decide +kernel⟩
abbrev s_wiped_of : Stmt := topS 7
theorem sc_wiped_of : FnScope ["board", "wiping", "one", "other", "others", "at", "number"] ["board", "wiping"] (defScope s_wiped_of) := ⟨rfl, rfl, rfl, by decide +kernel, rfl, by decide +kernel, by decide +kernel⟩
abbrev s_asked_many : Stmt := topS 10
theorem sc_asked_many : FnScope ["many"] ["many"] (defScope s_asked_many) := ⟨rfl, rfl, rfl, by decide +kernel, rfl, by decide +kernel, by decide +kernel⟩
abbrev s_bounds_of : Stmt := topS 11
theorem sc_bounds_of : FnScope ["many", "odd"] ["many"] (defScope s_bounds_of) := ⟨rfl, rfl, rfl, by decide +kernel, rfl, by decide +kernel, by decide +kernel⟩
abbrev s_row_bounds : Stmt := topS 12
theorem sc_row_bounds : FnScope ["many"] ["many"] (defScope s_row_bounds) := ⟨rfl, rfl, rfl, by decide +kernel, rfl, by decide +kernel, by decide +kernel⟩
abbrev s_put_in : Stmt := topS 13
theorem sc_put_in : FnScope ["board", "one", "other", "found", "first", "second"] ["board", "one", "other", "found"] (defScope s_put_in) := ⟨rfl, rfl, rfl, by decide +kernel, rfl, by decide +kernel, by decide +kernel⟩
abbrev s_row_led : Stmt := topS 14
theorem sc_row_led : FnScope ["many", "last", "low", "high", "board", "found", "others", "small", "number"] ["many", "last"] (defScope s_row_led) := ⟨rfl, rfl, rfl, by decide +kernel, rfl, by decide +kernel, by decide +kernel⟩
abbrev s_law_number : Stmt := topS 16
theorem sc_law_number : FnScope ["_law_cell", "_law_at", "_law_whole", "_law_blend", "_law_more"] ["_law_cell", "_law_at", "_law_whole"] (defScope s_law_number) := ⟨rfl, rfl, rfl, by decide +kernel, rfl, by decide +kernel, by decide +kernel⟩
abbrev s_law_board : Stmt := topS 17
theorem sc_law_board : FnScope ["_law_script", "_law_by", "_law_most", "_law_cells", "_law_whole", "_law_wide", "_law_found", "_law_at", "_law_number_here"] ["_law_script", "_law_by", "_law_most"] (defScope s_law_board) := ⟨rfl, rfl, rfl, by decide +kernel, rfl, by decide +kernel, by decide +kernel⟩
abbrev s_law_wiped : Stmt := topS 18
theorem sc_law_wiped : FnScope ["_law_board_here", "_law_pair", "_law_found", "_law_at", "_law_number_here"] ["_law_board_here", "_law_pair"] (defScope s_law_wiped) := ⟨rfl, rfl, rfl, by decide +kernel, rfl, by decide +kernel, by decide +kernel⟩
abbrev s_law_pairs : Stmt := topS 19
theorem sc_law_pairs : FnScope ["_law_many", "_law_found", "_law_other", "_law_one"] ["_law_many"] (defScope s_law_pairs) := ⟨rfl, rfl, rfl, by decide +kernel, rfl, by decide +kernel, by decide +kernel⟩
abbrev s_law_tally : Stmt := topS 20
theorem sc_law_tally : FnScope ["_law_board_here", "_law_line", "_law_turn", "_law_more", "_law_here", "_law_pair", "_law_there", "_law_found"] ["_law_board_here"] (defScope s_law_tally) := ⟨rfl, rfl, rfl, by decide +kernel, rfl, by decide +kernel, by decide +kernel⟩
abbrev s_law_left : Stmt := topS 21
theorem sc_law_left : FnScope ["_law_board_here", "_law_pairs_here", "_law_pair"] ["_law_board_here", "_law_pairs_here"] (defScope s_law_left) := ⟨rfl, rfl, rfl, by decide +kernel, rfl, by decide +kernel, by decide +kernel⟩
abbrev s_law : Stmt := topS 22
theorem sc_law : FnScope ["_law_script", "_law_whole", "_law_few", "_law_low", "_law_high", "_law_at", "_law_cell", "_law_number_here", "_law_great", "_law_found", "_law_odd", "_law_many", "_law_last", "_law_again", "_law_one"] ["_law_script"] (defScope s_law) := ⟨rfl, rfl, rfl, by decide +kernel, rfl, by decide +kernel, by decide +kernel⟩
end Lw

open PySem PySem.Spec PyProof.Rows L2 Evl Lw
local macro_rules | `(tactic| walk_at "rv") => `(tactic| first
  | exact rv_I0
  | exact rv_eq rfl
  | exact rv_ne rfl
  | (refine rv_I ?_; first | (with_reducible assumption) | (with_reducible refine divOk ?_ ?_ <;> omega) | (show (0 : Int) < _; omega))
  | (refine rv_ixL (sq_of (by assumption)) ?_; first | assumption | (apply at_of <;> first | assumption | rfl))
  | (refine rv_ixT (st_of (by assumption)) ?_; first | assumption | rfl)
  | (refine rv_ixL (by assumption) ?_; first | assumption | (apply at_of <;> first | assumption | rfl)))
local macro_rules | `(tactic| walk_at "ev") => `(tactic| first
  | exact ev_c
  | exact ev_var rfl
  | (apply ev_op; (· walk_at "ev"); (· walk_at "ev"); (· walk_at "rv"))
  | (apply ev_lenT; (· walk_at "ev"); (· exact st_of (by assumption)))
  | (apply ev_len; (· walk_at "ev"); (· first | exact sq_of (by assumption) | assumption))
  | (apply ev_abs; walk_at "ev")
  | (apply ev_sum; (· walk_at "ev"); (· first | exact sq_of (by assumption) | assumption))
  | (apply ev_andV; (· walk_at "ev"); (· intro _; walk_at "ev"))
  | (apply ev_orV; (· walk_at "ev"); (· intro _; walk_at "ev"))
  | (apply ev_notV; walk_at "ev")
  | (apply ev_un; (· walk_at "ev"); (· exact ru_neg))
  | (apply ev_chain; (· walk_at "ev"); (· walk_at "ev"); (· walk_at "ev"); (· walk_at "rv"); (· walk_at "rv"))
  | (apply ev_chain3; (· walk_at "ev"); (· walk_at "ev"); (· walk_at "ev"); (· walk_at "ev"); (· walk_at "rv"); (· walk_at "rv"); (· walk_at "rv")))
local macro_rules | `(tactic| walk_at "ea") => `(tactic| first
  | exact ea_nil
  | (apply ea_cons; (· walk_at "ev"); (· walk_at "ea")))
local macro_rules | `(tactic| walk_at "et") => `(tactic| first
  | (apply et_not; walk_at "et")
  | (apply et_and; (· walk_at "et"); (· intro _; walk_at "et"))
  | (apply et_or; (· walk_at "et"); (· intro _; walk_at "et"))
  | (apply et_B; walk_at "ev")
  | (apply et_test; walk_at "ev"))
namespace Lw
section
variable {P : Program} {w : World} {K : PySem.W.Frag} {mg : Str → Option Value} {base : Heap}
/-- a whole number comes -/
def spLawNumber : Sp := fun vs H Q _ => ∃ (c at' wh : Int) (M : Nat), vs = [.int c, .int at', .int wh] ∧ c.natAbs < 2 ^ M ∧ M ≤ 2000000 ∧ 0 ≤ at' ∧ at' ≤ 1000000 ∧ RetX AnyI H Q
theorem ok_law_number {f : Addr} {fd : FuncData} (D : Df K mg "_law_number" s_law_number ["_law_cell", "_law_at", "_law_whole"] f fd) (T : Blt mg) : FnOk P w K mg base CX0 1 f fd ["_law_cell", "_law_at", "_law_whole"] spLawNumber := by
  have ND := sc_law_number.nd
  refine D.F.ok sc_law_number (fun vs H Q E h => ?_) (fun cdv A outer s H vs Q E hr h => ?_)
  · obtain ⟨c, a, wh, M, rfl, _⟩ := h
    rfl
  · obtain ⟨c, a, wh, M, rfl, hc, hM, h0, h1, q⟩ := h
    refine ⟨_, (pss_cons /- 61 -/ (ps_if (pt_cmpR op_ge (pv 0) (pe_op op_pow pe_int pe_int) (nomark _))
        (pss_one /- 62 -/ (ps_ret (pe_op op_fdivW (pv 0) (pe_op op_add pe_int (pe_op op_mod (pv 1) pe_int)))))
        pss_nil)
      (pss_cons /- 63 -/ (ps_set (i := 3) ND rfl (by first | exact .inl rfl | exact .inr rfl) (pe_op op_mod (pe_op op_add (pe_op op_mulZ (pe_op op_add (pv 0) (pe_op op_mulZ pe_int (pv 1))) pe_int) (pv 2)) pe_int))
      (pss_cons /- 64 -/ (ps_set (i := 4) ND rfl (by first | exact .inl rfl | exact .inr rfl) (pe_op op_mulZ (pv 3) (pe_op op_add (pe_op op_add (pv 0) (pe_op op_mulZ pe_int (pv 1))) pe_int)))
      (pss_one /- 65 -/ (ps_ret (pe_op op_fdivW (pe_op op_mulZ (pe_op op_mulZ (pv 4) (pe_op op_add (pe_op op_add (pv 3) (pv 0)) pe_int)) (pe_op op_add (pe_op op_mulZ (pv 3) (pv 3)) pe_int)) (pe_op op_add pe_int (pv 1)))))))), ?_⟩
    have s977 : IntMulOk 977 a := mulOk (a := 10) (b := 20) (by decide) (by omega) (by decide)
    have s31 : IntMulOk 31 a := mulOk (a := 5) (b := 20) (by decide) (by omega) (by decide)
    have hs977 : ((977 : Int) * a).natAbs < 2 ^ 30 := by omega
    have s48 : IntMulOk (c + 977 * a) 48271 := mulOk (sz_add hc hs977) (b := 16) (by decide) (by omega)
    have hb : ∀ x : Int, (x % 2147483647).natAbs < 2 ^ 31 := fun x => by
      have := Int.emod_nonneg x (show (2147483647 : Int) ≠ 0 by decide)
      have := Int.emod_lt_of_pos x (show (0 : Int) < 2147483647 by decide)
      omega
    generalize hbl : ((c + 977 * a) * 48271 + wh) % 2147483647 = bl
    have hbl' : bl.natAbs < 2 ^ 31 := hbl ▸ hb _
    have hs31 : ((31 : Int) * a).natAbs < 2 ^ 25 := by omega
    have sm : (c + 31 * a + 7).natAbs < 2 ^ (M + 25 + 1 + 3 + 1) := sz_add (sz_add hc hs31) (b := 3) (by decide)
    have m1 : IntMulOk bl (c + 31 * a + 7) := mulOk hbl' sm (by omega)
    have sm1 := sz_mul hbl' sm
    have sb : (bl + c + 5).natAbs < 2 ^ (31 + M + 1 + 3 + 1) := sz_add (sz_add hbl' hc) (b := 3) (by decide)
    have m2 : IntMulOk (bl * (c + 31 * a + 7)) (bl + c + 5) := mulOk sm1 sb (by omega)
    have m3 : IntMulOk bl bl := mulOk hbl' hbl' (by decide)
    have sq : (bl * bl + 11).natAbs < 2 ^ (31 + 31 + 4 + 1) := sz_add (sz_mul hbl' hbl') (b := 4) (by decide)
    have m4 : IntMulOk (bl * (c + 31 * a + 7) * (bl + c + 5)) (bl * bl + 11) := mulOk (sz_mul sm1 sb) sq (by omega)
    have hp : CPow 10 18 := by unfold CPow; decide
    have a7 := Int.emod_nonneg a (show (7 : Int) ≠ 0 by decide)
    have a8 := Int.emod_lt_of_pos a (show (0 : Int) < 7 by decide)
    refine q_when (et_test (by walk_at "ev")) (fun _ H1 e1 => ?_) (fun _ H1 e1 => ?_)
    · exact s_ret (by walk_at "ev") fun H2 e2 => q _ H2 (e1.trans e2) ⟨_, rfl⟩
    · refine q_asg (v := .int bl) ?_ fun H2 e2 => ?_
      · refine ev_is ?_ (congrArg V.int hbl)
        walk_at "ev"
      · refine q_asg (v := .int (bl * (c + 31 * a + 7))) ?_ fun H3 e3 => ?_
        · walk_at "ev"
        · exact s_ret (by walk_at "ev") fun H4 e4 => q _ H4 (((e1.trans e2).trans e3).trans e4) ⟨_, rfl⟩
theorem sx_lawNumber {c a wh : Int} {M : Nat} {H : Hp} (hc : c.natAbs < 2 ^ M) (hM : M ≤ 2000000) (h0 : 0 ≤ a) (h1 : a ≤ 1000000) : SpX spLawNumber [.int c, .int a, .int wh] H AnyI := fun H1 e Q q E => ⟨c, a, wh, M, rfl, hc, hM, h0, h1, q⟩
end
end Lw

--@ uses: law_number
namespace Lw
section
variable {P : Program} {w : World} {K : PySem.W.Frag} {mg : Str → Option Value} {base : Heap}
/-- the script: at most 63 whole numbers that the model can lay -/
structure Scr (K : PySem.W.Frag) (H : Hp) (a : Addr) (ns : List Int) : Prop where
  at' : SqL K H a (ns.map V.int)
  len : ns.length ≤ 63
  bits : ∀ z ∈ ns, Builtin.Int.intBits z ≤ 1048576
theorem Scr.mono {H H' : Hp} {a : Addr} {ns : List Int} (e : Ex H H') (h : Scr K H a ns) : Scr K H' a ns := ⟨ex_l e h.at', h.len, h.bits⟩
def NB (most : Int) : Hp → V → Hp → Prop := fun H1 v H2 => ∃ p ns, v = .ref p ∧ H1 p = none ∧ H2 p = some (.lst (ns.map V.int)) ∧ Board ns ∧ (ns.length : Int) ≤ most
theorem back_B {most : Int} : Back (NB most) := fun H1 H2 v H3 e ⟨p, ns, h1, h2, h3⟩ => ⟨p, ns, h1, fresh_back e h2, h3⟩
def spLawBoard (K : PySem.W.Frag) : Sp := fun vs H Q _ => ∃ (a : Addr) (ns : List Int) (by' most : Int), vs = [.ref a, .int by', .int most] ∧ Scr K H a ns ∧ 0 ≤ by' ∧ by' ≤ 1000 ∧ 1 ≤ most ∧ most ≤ 6 ∧ RetX (NB most) H Q
theorem wide_at (r : Int) (h0 : 0 ≤ r) (h1 : r < 4) : ∃ z : Int, atI ([.int 3, .int 9, .int 60, .int 1000001] : List V) r = some (.int z) ∧ 0 < z ∧ z ≤ 1000001 := by
  obtain rfl | rfl | rfl | rfl : r = 0 ∨ r = 1 ∨ r = 2 ∨ r = 3 := by omega
  · exact ⟨3, atI_nat (j := 0) rfl, by decide, by decide⟩
  · exact ⟨9, atI_nat (j := 1) rfl, by decide, by decide⟩
  · exact ⟨60, atI_nat (j := 2) rfl, by decide, by decide⟩
  · exact ⟨1000001, atI_nat (j := 3) rfl, by decide, by decide⟩
theorem ok_law_board {f f1 : Addr} {fd fd1 : FuncData} (D : Df K mg "_law_board" s_law_board ["_law_script", "_law_by", "_law_most"] f fd) (T : Blt mg)
    (o_law_number : Ok P w K mg base CX0 1 "_law_number" s_law_number ["_law_cell", "_law_at", "_law_whole"] spLawNumber f1 fd1) : FnOk P w K mg base CX0 2 f fd ["_law_script", "_law_by", "_law_most"] (spLawBoard K) := by
  have ND := sc_law_board.nd
  refine D.F.ok sc_law_board (fun vs H Q E h => ?_) (fun cdv A outer s H vs Q E hr h => ?_)
  · obtain ⟨a, ns, b, m, rfl, _⟩ := h
    rfl
  · obtain ⟨a, ns, b, most, rfl, S, b0, b1, m0, m1, q⟩ := h
    refine ⟨_, (pss_cons /- 67 -/ (ps_set (i := 3) ND rfl (by first | exact .inl rfl | exact .inr rfl) (pe_ifExp (pt_cmpR (kNeD (K := K) rfl hr.units) (pv 0) (pe_lst pa_nil) (nomark _)) (pe_slice (kSl (K := K) rfl) (pv 0) po_none (po_some pe_int)) (pe_lst (pa_cons pe_int pa_nil))))
      (pss_cons /- 68 -/ (ps_set (i := 4) ND rfl (by first | exact .inl rfl | exact .inr rfl) (pe_op op_add (pe_callB kAbs (by rfl) T.abs (by decide +kernel) (pa_cons (pe_callB (kSum (K := K) rfl rfl) (by rfl) T.sum (by decide +kernel) (pa_cons (pv 3) pa_nil)) pa_nil)) (pv 1)))
      (pss_cons /- 69 -/ (ps_par (i := 5) (j := 6) (by rfl) ND rfl rfl (by decide) rfl rfl (pa_cons (pe_ix (kIxT (K := K) rfl) (pe_tup (pa_cons pe_int (pa_cons pe_int (pa_cons pe_int (pa_cons pe_int pa_nil))))) (pe_op op_mod (pe_op op_fdivW (pv 4) pe_int) pe_int) (fun _ _ => rfl)) (pa_cons (pe_lst pa_nil) pa_nil)) (by rfl))
      (pss_cons /- 70 -/ (ps_for PassesOwn.never rfl (pi_range1 (by rfl) T.range (pa_cons (pe_op op_add pe_int (pe_op op_mod (pv 4) (pv 2))) pa_nil)) (pg_name (i := 7) ND rfl (by first | exact .inl rfl | exact .inr rfl))
        (pss_cons /- 71 -/ (ps_set (i := 8) ND rfl (by first | exact .inl rfl | exact .inr rfl) (pe_op op_fdivW (pe_call o_law_number.G (hr.mono (by first | decide | omega)) rfl o_law_number.D.g o_law_number.D.F.kp o_law_number.D.b .nil pass0 (pa_cons (pe_ix (kIxL (K := K) rfl) (pv 3) (pe_op op_mod (pe_op op_add (pv 7) (pv 1)) (pe_callB (kLen (K := K) rfl) (by rfl) T.len PySem.boot_len (pa_cons (pv 3) pa_nil))) (fun _ _ => rfl)) (pa_cons (pe_op op_add (pv 7) (pv 1)) (pa_cons (pv 4) pa_nil)))) pe_int))
        (pss_one /- 72 -/ (ps_expr (pe_bm PySem.F.plainAttrs_list PySem.F.slot_list_append PySem.F.type_list_append mt_append (pv 6) (pa_cons (pe_op op_mod (pv 8) (pv 5)) pa_nil))))))
      (pss_one /- 73 -/ (ps_ret (pv 6))))))), ?_⟩
    obtain ⟨cs, hcs, c1, c2, c3⟩ : ∃ cs : List Int, cs = (if ns = [] then [5] else ns) ∧ 1 ≤ cs.length ∧ cs.length ≤ 63 ∧ ∀ z ∈ cs, Builtin.Int.intBits z ≤ 1048576 := by
      refine ⟨_, rfl, ?_⟩
      by_cases h : ns = []
      · rw [if_pos h]
        exact ⟨by decide, by decide, fun z hz => by rw [List.mem_singleton.mp hz]; decide⟩
      · rw [if_neg h]
        exact ⟨List.length_pos_iff.mpr h, S.len, S.bits⟩
    have hl : (cs.map V.int).length = cs.length := List.length_map _
    refine q_asgL (xs := cs.map V.int) ?_ fun p H1 hp e1 h1 => ?_
    · refine el_if (b := !decide (ns = [])) (et_test (ev_neD (ed_v (ev_var rfl) (at_ints S.at')) (ed_l (ns := []) (el_lst ea_nil (by decide))))) (fun hb => ?_) (fun hb => ?_)
      · rw [hcs, if_neg (nd_t hb)]
        refine el_is (el_sl (ev_var rfl) eo_none (eo_some ev_c) S.at') ?_
        exact cut_all (n := 63) (by rw [List.length_map]; exact S.len)
      · rw [hcs, if_pos (nd_f hb)]
        exact el_lst (ea_cons ev_c ea_nil) (show 1 ≤ 100000 by decide)
    · refine q_asg (v := .int ((cs.sum.natAbs : Int) + b)) (ev_op (ev_abs (ev_sum (ev_var rfl) (sq_of h1))) (ev_var rfl) rv_I0) fun H2 e2 => ?_
      generalize (cs.sum.natAbs : Int) + b = whole
      obtain ⟨wd, hw, w0, w1⟩ := wide_at (whole / 3 % 4) (Int.emod_nonneg _ (by decide)) (Int.emod_lt_of_pos _ (by decide))
      refine q_parVL (v := .int wd) (ev_ixNT (eu_tup (ea_cons ev_c (ea_cons ev_c (ea_cons ev_c (ea_cons ev_c ea_nil)))) (show 4 ≤ 100000 by decide)) (by walk_at "ev") hw) (el_lst ea_nil (by decide)) fun r H3 hr' e3 h3 => ?_
      have g0 := Int.emod_nonneg whole (show most ≠ 0 by omega)
      have g1 := Int.emod_lt_of_pos whole (show 0 < most by omega)
      have hp2 := e2 _ _ h1
      refine q_forR1 (n := 1 + whole % most) (ea_cons (by walk_at "ev") ea_nil) (by omega) (fun m σ' H' => ∃ y7 y8 bs, σ' = [some (.ref a), some (.int b), some (.int most), some (.ref p), some (.int whole), some (.int wd), some (.ref r), y7, y8] ∧ Ex H2 H' ∧ H' r = some (.lst (bs.map V.int)) ∧ bs.length = m ∧ ∀ x ∈ bs, 0 ≤ x ∧ x ≤ 1000000)
        (fun H4 e4 => ⟨none, none, [], rfl, e3.trans e4, e4 _ _ h3, rfl, fun x hx => by cases hx⟩) (fun m σ' H' hm ⟨y7, y8, bs, hs, e, hb, hbl, hbm⟩ => ?_) (fun σ' H' ⟨y7, y8, bs, hs, e, hb, hbl, hbm⟩ => ?_)
      · subst hs
        have z0 := Int.emod_nonneg ((m : Int) + b) (show (cs.length : Int) ≠ 0 by omega)
        have z1 := Int.emod_lt_of_pos ((m : Int) + b) (show 0 < (cs.length : Int) by omega)
        obtain ⟨c, hc, hcb⟩ : ∃ c : Int, atI (cs.map V.int) (((m : Int) + b) % (((cs.map V.int).length : Nat) : Int)) = some (.int c) ∧ Builtin.Int.intBits c ≤ 1048576 := by
          rw [hl]
          exact ⟨_, at_int_i z0 z1, c3 _ (getD_mem (by omega))⟩
        have hpe := e _ _ hp2
        have lpos : (0 : Int) < (((cs.map V.int).length : Nat) : Int) := by rw [hl]; omega
        refine q_asgX (R := AnyI) (ex_opI back_I (ex_call back_I (ea_cons (ev_op (ev_var rfl) (ev_op (ev_op (ev_var rfl) (ev_var rfl) rv_I0) (ev_len (ev_var rfl) (sq_of hpe)) (rv_I lpos)) (rv_ixL (sq_of hpe) hc)) (ea_cons (ev_op (ev_var rfl) (ev_var rfl) rv_I0) (ea_cons (ev_var rfl) ea_nil))) (sx_lawNumber (M := Builtin.Int.intBits c) sz_bits (by omega) (by omega) (by omega))) ev_c fun z => ⟨_, rv_I (divOk (by decide) (by decide)), fun _ _ => ⟨_, rfl⟩⟩) fun v H5 e5 ⟨z, hz⟩ => ?_
        · subst hz
          have k0 := Int.emod_nonneg z (show wd ≠ 0 by omega)
          have k1 := Int.emod_lt_of_pos z (show 0 < wd by omega)
          refine s_app (l := r) (v := .int (z % wd)) (e5 _ _ hb) (ev_var rfl) (ev_op (ev_var rfl) (ev_var rfl) (rv_I w0)) ?_ fun H6 e6 => ⟨_, _, bs ++ [z % wd], rfl, Ex.mut ((e.trans e5).trans e6) hr', ?_, ?_, ?_⟩
          · rw [List.length_map]
            omega
          · rw [upd_same, List.map_append]
            rfl
          · rw [List.length_append, hbl]
            rfl
          · intro x hx
            rcases List.mem_append.mp hx with hx | hx
            · exact hbm x hx
            · rw [List.mem_singleton.mp hx]
              omega
      · subst hs
        refine s_ret (ev_var rfl) fun H6 e6 => q _ H6 (((e1.trans e2).trans e).trans e6) ⟨r, bs, rfl, fresh_back (e1.trans e2) hr', e6 _ _ hb, ⟨by omega, by omega, hbm⟩, by omega⟩
theorem sx_lawBoard {a : Addr} {ns : List Int} {b most : Int} {H : Hp} (S : Scr K H a ns) (b0 : 0 ≤ b) (b1 : b ≤ 1000) (m0 : 1 ≤ most) (m1 : most ≤ 6) : SpX (spLawBoard K) [.ref a, .int b, .int most] H (NB most) := fun H1 e Q q E => ⟨a, ns, b, most, rfl, S.mono e, b0, b1, m0, m1, q⟩
end
end Lw

--@ uses: law_board
namespace Lw
def spLaw (K : PySem.W.Frag) : Sp := fun vs H Q _ => ∃ (a : Addr) (ns : List Int), vs = [.ref a] ∧ Scr K H a ns ∧ RetV (.bl true) H Q
section
variable {K : PySem.W.Frag} {σ : L2.St} {H : Hp} {te tb : TE}
/-- abs(sum(script[:63])) -/
theorem ev_whole {a : Addr} {ns : List Int} (h : Ev te σ H (.ref a)) (S : Scr K H a ns) (hb : Ev tb σ H (.int 63)) : Ev (tCB rAbs (tCons (tCB (rSum K) (tCons (tSl (rSlL K) te tNoPart (tPart tb)) tNil)) tNil)) σ H (.int (ns.sum.natAbs : Int)) := by
  refine ev_abs (ev_sumN (el_is (el_sl h eo_none (eo_some hb) S.at') ?_))
  exact cut_all (n := 63) (by rw [List.length_map]; exact S.len)
end
end Lw

namespace Lw
/-! ### the board behind a wiping -/
def keepAt (i j : Int) : Nat → List Int → List Int
  | _, [] => []
  | k, x :: r => if (k : Int) = i ∨ (k : Int) = j then keepAt i j (k + 1) r else x :: keepAt i j (k + 1) r
def wp (ns : List Int) (i j : Int) : List Int := keepAt i j 0 ns ++ [((ns.getD i.toNat 0 - ns.getD j.toNat 0).natAbs : Int)]
theorem keepAt_append (i j : Int) (x : Int) : ∀ (l : List Int) (k : Nat), keepAt i j k (l ++ [x]) = keepAt i j k l ++ (if ((k + l.length : Nat) : Int) = i ∨ ((k + l.length : Nat) : Int) = j then [] else [x])
  | [], k => by
    show keepAt i j k [x] = _
    unfold keepAt keepAt
    rw [List.length_nil, Nat.add_zero]
    split <;> simp [keepAt]
  | y :: r, k => by
    have ih := keepAt_append i j x r (k + 1)
    rw [List.cons_append]
    unfold keepAt
    rw [ih, List.length_cons, show k + 1 + r.length = k + (r.length + 1) by omega]
    by_cases h : (k : Int) = i ∨ (k : Int) = j
    · simp only [if_pos h]
    · simp only [if_neg h, List.cons_append]
theorem keepAt_range (i j : Int) : ∀ (l : List Int) (k : Nat), (((List.range l.length).filter fun m => !decide (((m + k : Nat) : Int) = i ∨ ((m + k : Nat) : Int) = j)).map fun m => l.getD m 0) = keepAt i j k l
  | [], _ => rfl
  | x :: r, k => by
    have ih := keepAt_range i j r (k + 1)
    rw [List.length_cons, List.range_succ_eq_map, List.filter_cons, List.filter_map]
    unfold keepAt
    have e : ((List.filter ((fun m : Nat => !decide (((m + k : Nat) : Int) = i ∨ ((m + k : Nat) : Int) = j)) ∘ Nat.succ) (List.range r.length)).map Nat.succ).map (fun m => (x :: r).getD m 0) = keepAt i j (k + 1) r := by
      rw [List.map_map, ← ih]
      have e1 : ((fun m : Nat => !decide (((m + k : Nat) : Int) = i ∨ ((m + k : Nat) : Int) = j)) ∘ Nat.succ) = fun m : Nat => !decide (((m + (k + 1) : Nat) : Int) = i ∨ ((m + (k + 1) : Nat) : Int) = j) := by
        funext m
        show (!decide (((m.succ + k : Nat) : Int) = i ∨ ((m.succ + k : Nat) : Int) = j)) = _
        rw [show m.succ + k = m + (k + 1) by omega]
      rw [e1]
      rfl
    rw [Nat.zero_add]
    by_cases h : (k : Int) = i ∨ (k : Int) = j
    · rw [if_neg (by simp [h]), if_pos h]
      exact e
    · rw [if_pos (by simp [h]), if_neg h, List.map_cons, e]
      rfl
theorem keepAt_len_le (i j : Int) : ∀ (l : List Int) (k : Nat), (keepAt i j k l).length ≤ l.length
  | [], _ => Nat.le_refl _
  | x :: r, k => by
    have ih := keepAt_len_le i j r (k + 1)
    unfold keepAt
    split <;> simp only [List.length_cons] <;> omega
theorem keepAt_mem {i j x : Int} : ∀ {l : List Int} {k : Nat}, x ∈ keepAt i j k l → x ∈ l
  | [], _, h => by cases h
  | y :: r, k, h => by
    unfold keepAt at h
    split at h
    · exact List.mem_cons_of_mem _ (keepAt_mem h)
    · rcases List.mem_cons.mp h with h | h
      · rw [h]; exact List.mem_cons_self
      · exact List.mem_cons_of_mem _ (keepAt_mem h)
/-- nothing is taken out behind j -/
theorem keepAt_all {i j : Int} : ∀ (l : List Int) (k : Nat), i < k → j < k → keepAt i j k l = l
  | [], _, _, _ => rfl
  | x :: r, k, hi, hj => by
    unfold keepAt
    rw [if_neg (by omega), keepAt_all r (k + 1) (by omega) (by omega)]
/-- one taken out -/
theorem keepAt_one {i : Int} : ∀ (l : List Int) (k : Nat) (j : Int), i < k → k ≤ j → j < k + l.length → keepAt i j k l = l.eraseIdx (j - k).toNat
  | [], k, j, _, h1, h2 => by simp at h2; omega
  | x :: r, k, j, hi, h1, h2 => by
    rw [List.length_cons] at h2
    unfold keepAt
    by_cases h : (k : Int) = j
    · rw [if_pos (Or.inr h), keepAt_all r (k + 1) (by omega) (by omega), show (j - k).toNat = 0 by omega]
      rfl
    · rw [if_neg (by omega), keepAt_one r (k + 1) j (by omega) (by omega) (by omega), show (j - k).toNat = (j - ((k + 1 : Nat) : Int)).toNat + 1 by omega]
      rfl
theorem keepAt_two : ∀ (l : List Int) (k : Nat) (i j : Int), k ≤ i → i < j → j < k + l.length → keepAt i j k l = (l.eraseIdx (j - k).toNat).eraseIdx (i - k).toNat
  | [], k, i, j, h0, h1, h2 => by simp at h2; omega
  | x :: r, k, i, j, h0, h1, h2 => by
    rw [List.length_cons] at h2
    unfold keepAt
    by_cases h : (k : Int) = i
    · rw [if_pos (Or.inl h), keepAt_one r (k + 1) j (by omega) (by omega) (by omega), show (i - k).toNat = 0 by omega, show (j - k).toNat = (j - ((k + 1 : Nat) : Int)).toNat + 1 by omega]
      rfl
    · rw [if_neg (by omega), keepAt_two r (k + 1) i j (by omega) (by omega) (by omega), show (i - k).toNat = (i - ((k + 1 : Nat) : Int)).toNat + 1 by omega, show (j - k).toNat = (j - ((k + 1 : Nat) : Int)).toNat + 1 by omega]
      rfl
theorem wp_eq {ns : List Int} {i j : Int} (h0 : 0 ≤ i) (h1 : i < j) (h2 : j < ns.length) : wp ns i j = (ns.eraseIdx j.toNat).eraseIdx i.toNat ++ [((ns.getD i.toNat 0 - ns.getD j.toNat 0).natAbs : Int)] := by
  unfold wp
  rw [keepAt_two ns 0 i j (by omega) h1 (by omega)]
  rw [show (i - ((0 : Nat) : Int)).toNat = i.toNat by omega, show (j - ((0 : Nat) : Int)).toNat = j.toNat by omega]
theorem wp_len {ns : List Int} {i j : Int} (h0 : 0 ≤ i) (h1 : i < j) (h2 : j < ns.length) : (wp ns i j).length + 1 = ns.length := by
  rw [wp_eq h0 h1 h2, List.length_append, List.length_singleton, List.length_eraseIdx_of_lt (by rw [List.length_eraseIdx_of_lt (by omega)]; omega), List.length_eraseIdx_of_lt (by omega)]
  omega
theorem getD_mem {ns : List Int} {i : Nat} (h : i < ns.length) : ns.getD i 0 ∈ ns := by
  rw [List.getD_eq_getElem?_getD, List.getElem?_eq_getElem h]
  exact List.getElem_mem h
/-- nothing grows, nothing falls below 0 -/
theorem wp_bound {ns : List Int} {i j m : Int} (h0 : 0 ≤ i) (h1 : i < j) (h2 : j < ns.length) (hm : ∀ x ∈ ns, 0 ≤ x ∧ x ≤ m) : ∀ x ∈ wp ns i j, 0 ≤ x ∧ x ≤ m := by
  intro x hx
  unfold wp at hx
  rcases List.mem_append.mp hx with hx | hx
  · exact hm x (keepAt_mem hx)
  · rw [List.mem_singleton] at hx
    have a := hm _ (getD_mem (ns := ns) (i := i.toNat) (by omega))
    have b := hm _ (getD_mem (ns := ns) (i := j.toNat) (by omega))
    omega
/-- even or odd as before -/
theorem sum_eraseIdx : ∀ (l : List Int) (i : Nat), i < l.length → (l.eraseIdx i).sum = l.sum - l.getD i 0
  | [], i, h => by simp at h
  | x :: r, 0, _ => by
    show r.sum = (x :: r).sum - x
    rw [List.sum_cons]
    omega
  | x :: r, i + 1, h => by
    have ih := sum_eraseIdx r i (by simpa using h)
    show (x :: r.eraseIdx i).sum = (x :: r).sum - r.getD i 0
    rw [List.sum_cons, List.sum_cons, ih]
    omega
theorem getD_eraseIdx_lt {l : List Int} {i j : Nat} (h : i < j) : (l.eraseIdx j).getD i 0 = l.getD i 0 := by
  rw [List.getD_eq_getElem?_getD, List.getD_eq_getElem?_getD, List.getElem?_eraseIdx_of_lt h]
theorem wp_sum {ns : List Int} {i j : Int} (h0 : 0 ≤ i) (h1 : i < j) (h2 : j < ns.length) : (wp ns i j).sum % 2 = ns.sum % 2 := by
  rw [wp_eq h0 h1 h2, List.sum_append, sum_eraseIdx _ _ (by rw [List.length_eraseIdx_of_lt (by omega)]; omega), sum_eraseIdx _ _ (by omega), getD_eraseIdx_lt (by omega)]
  simp only [List.sum_cons, List.sum_nil]
  omega
end Lw

namespace Lw
/-! ### all wipings of so many places, in order -/
def pairsRaw (n : Nat) : List (Int × Int) := (List.range n).flatMap fun j => (List.range j).map fun (i : Nat) => ((i : Int), (j : Int))
def pairsOf (n : Nat) : List (Int × Int) := (List.range n).flatMap fun (i : Nat) => (List.range (n - (i + 1))).map fun (k : Nat) => ((i : Int), (i : Int) + 1 + (k : Int))
theorem pairs_six : ∀ n, n ≤ 6 → (pairsOf n).Perm (pairsRaw n) ∧ (pairsOf n).Pairwise lexLe := by
  intro n h
  rcases n with _ | _ | _ | _ | _ | _ | _ | n
  all_goals first | exact ⟨by decide, by decide⟩ | (exfalso; omega)
theorem pairs_mem {n : Nat} {p : Int × Int} (h : p ∈ pairsOf n) : 0 ≤ p.1 ∧ p.1 < p.2 ∧ p.2 < n := by
  unfold pairsOf at h
  obtain ⟨i, hi, h⟩ := List.mem_flatMap.mp h
  obtain ⟨k, hk, rfl⟩ := List.mem_map.mp h
  have := List.mem_range.mp hi
  have := List.mem_range.mp hk
  show 0 ≤ (i : Int) ∧ (i : Int) < (i : Int) + 1 + k ∧ (i : Int) + 1 + k < n
  omega
theorem mem_pairs {n : Nat} {i j : Int} (h0 : 0 ≤ i) (h1 : i < j) (h2 : j < n) : (i, j) ∈ pairsOf n := by
  unfold pairsOf
  refine List.mem_flatMap.mpr ⟨i.toNat, List.mem_range.mpr (by omega), List.mem_map.mpr ⟨(j - i - 1).toNat, List.mem_range.mpr (by omega), Prod.ext ?_ ?_⟩⟩
  · show ((i.toNat : Nat) : Int) = i
    omega
  · show ((i.toNat : Nat) : Int) + 1 + (((j - i - 1).toNat : Nat) : Int) = j
    omega
theorem pairs_len_six {n : Nat} (h : n ≤ 6) : (pairsOf n).length ≤ 15 := by
  rcases n with _ | _ | _ | _ | _ | _ | _ | n
  all_goals first | decide | (exfalso; omega)
theorem flatMap_cg {α β : Type} {f g : α → List β} : ∀ {l : List α}, (∀ x ∈ l, f x = g x) → l.flatMap f = l.flatMap g
  | [], _ => rfl
  | x :: l, h => by
    rw [List.flatMap_cons, List.flatMap_cons, h x List.mem_cons_self, flatMap_cg fun y hy => h y (List.mem_cons_of_mem _ hy)]
theorem pairs_succ (n : Nat) : pairsOf (n + 1) = ((List.range n).map fun (k : Nat) => ((0 : Int), 1 + (k : Int))) ++ (pairsOf n).map fun p => (p.1 + 1, p.2 + 1) := by
  unfold pairsOf
  rw [List.range_succ_eq_map, List.flatMap_cons, List.flatMap_map, List.map_flatMap]
  have e0 : (List.range (n + 1 - (0 + 1))).map (fun (k : Nat) => (((0 : Nat) : Int), ((0 : Nat) : Int) + 1 + (k : Int))) = (List.range n).map fun (k : Nat) => ((0 : Int), 1 + (k : Int)) := by
    rw [show n + 1 - (0 + 1) = n by omega]
    exact List.map_congr_left fun k _ => Prod.ext rfl (by show ((0 : Nat) : Int) + 1 + (k : Int) = 1 + (k : Int); omega)
  rw [e0]
  refine congrArg _ (flatMap_cg fun i hi => ?_)
  rw [List.map_map, show n + 1 - (i.succ + 1) = n - (i + 1) by omega]
  refine List.map_congr_left fun k hk => ?_
  exact Prod.ext (by show ((i + 1 : Nat) : Int) = (i : Int) + 1; omega) (by show ((i + 1 : Nat) : Int) + 1 + (k : Int) = (i : Int) + 1 + (k : Int) + 1; omega)
end Lw

--@ uses: math_wp math_pairs
namespace Lw
/-! ### in how many ways a number is left -/
def ways : Nat → List Int → Int → Nat
  | 0, b, x => if b = [x] then 1 else 0
  | n + 1, b, x => ((pairsOf b.length).map fun p => ways n (wp b p.1 p.2) x).sum
def PermInv (f : List Int → Nat) : Prop := ∀ l m, l.Perm m → f l = f m
def sumT (f : List Int → Nat) (a : Int) (t : List Int) : Nat := ((List.range t.length).map fun k => f (t.eraseIdx k ++ [((a - t.getD k 0).natAbs : Int)])).sum
def sumS (f : List Int → Nat) (b : List Int) : Nat := ((pairsOf b.length).map fun p => f (wp b p.1 p.2)).sum
theorem sumT_cons (f : List Int → Nat) (a b : Int) (t : List Int) : sumT f a (b :: t) = f (t ++ [((a - b).natAbs : Int)]) + sumT (fun l => f (b :: l)) a t := by
  unfold sumT
  rw [List.length_cons, List.range_succ_eq_map, List.map_cons, List.sum_cons, List.map_map]
  rfl
theorem wp_zero (a : Int) (t : List Int) (k : Nat) (h : k < t.length) : wp (a :: t) 0 (1 + (k : Int)) = t.eraseIdx k ++ [((a - t.getD k 0).natAbs : Int)] := by
  rw [wp_eq (by omega) (by omega) (by rw [List.length_cons]; omega)]
  rw [show (1 + (k : Int)).toNat = k + 1 by omega]
  rfl
theorem wp_succ (a : Int) (t : List Int) (i j : Int) (h0 : 0 ≤ i) (h1 : i < j) (h2 : j < t.length) : wp (a :: t) (i + 1) (j + 1) = a :: wp t i j := by
  rw [wp_eq (by omega) (by omega) (by rw [List.length_cons]; omega), wp_eq h0 h1 h2]
  rw [show (i + 1).toNat = i.toNat + 1 by omega, show (j + 1).toNat = j.toNat + 1 by omega]
  rfl
theorem sumS_cons (f : List Int → Nat) (a : Int) (t : List Int) : sumS f (a :: t) = sumT f a t + sumS (fun l => f (a :: l)) t := by
  unfold sumS sumT
  rw [List.length_cons, pairs_succ, List.map_append, List.sum_append, List.map_map, List.map_map]
  congr 1
  · congr 1
    refine List.map_congr_left fun k hk => ?_
    exact congrArg f (wp_zero a t k (List.mem_range.mp hk))
  · congr 1
    refine List.map_congr_left fun p hp => ?_
    obtain ⟨h0, h1, h2⟩ := pairs_mem hp
    exact congrArg f (wp_succ a t p.1 p.2 h0 h1 h2)
theorem PermInv.cons {f : List Int → Nat} (h : PermInv f) (a : Int) : PermInv fun l => f (a :: l) := fun l m p => h _ _ (p.cons a)
theorem sumT_perm : ∀ {t t' : List Int}, t.Perm t' → ∀ (f : List Int → Nat) (a : Int), PermInv f → sumT f a t = sumT f a t' := by
  intro t t' p
  induction p with
  | nil => intro f a _; rfl
  | cons x p ih =>
    intro f a hf
    rw [sumT_cons, sumT_cons, ih _ a (hf.cons x), hf _ _ (p.append_right _)]
  | swap x y l =>
    intro f a hf
    rw [sumT_cons, sumT_cons, sumT_cons, sumT_cons]
    have e : (fun k => f (x :: y :: k)) = fun k => f (y :: x :: k) := funext fun k => hf _ _ (List.Perm.swap y x k)
    rw [e]
    simp only [List.cons_append]
    omega
  | trans _ _ ih1 ih2 =>
    intro f a hf
    rw [ih1 f a hf, ih2 f a hf]
theorem sumS_perm : ∀ {t t' : List Int}, t.Perm t' → ∀ (f : List Int → Nat), PermInv f → sumS f t = sumS f t' := by
  intro t t' p
  induction p with
  | nil => intro f _; rfl
  | cons x p ih =>
    intro f hf
    rw [sumS_cons, sumS_cons, ih _ (hf.cons x), sumT_perm p f x hf]
  | swap x y l =>
    intro f hf
    rw [sumS_cons, sumS_cons, sumS_cons, sumS_cons, sumT_cons, sumT_cons]
    have e : (fun k => f (x :: y :: k)) = fun k => f (y :: x :: k) := funext fun k => hf _ _ (List.Perm.swap y x k)
    have e2 : ((y - x).natAbs : Int) = ((x - y).natAbs : Int) := by omega
    rw [e, e2]
    omega
  | trans _ _ ih1 ih2 =>
    intro f hf
    rw [ih1 f hf, ih2 f hf]
theorem ways_perm : ∀ (n : Nat) (x : Int), PermInv fun b => ways n b x
  | 0, x => fun l m p => by
    show (if l = [x] then 1 else 0) = if m = [x] then 1 else 0
    have e : (l = [x]) ↔ (m = [x]) := ⟨fun h => by rw [h] at p; exact List.perm_singleton.mp p.symm, fun h => by rw [h] at p; exact List.perm_singleton.mp p⟩
    by_cases h : l = [x]
    · rw [if_pos h, if_pos (e.mp h)]
    · rw [if_neg h, if_neg fun z => h (e.mpr z)]
  | n + 1, x => fun l m p => sumS_perm p _ (ways_perm n x)
theorem sum_ne {l : List Nat} (h : l.sum ≠ 0) : ∃ y ∈ l, y ≠ 0 := by
  induction l with
  | nil => exact absurd rfl h
  | cons a l ih =>
    rw [List.sum_cons] at h
    by_cases ha : a = 0
    · obtain ⟨y, hy, h2⟩ := ih (by omega)
      exact ⟨y, List.mem_cons_of_mem _ hy, h2⟩
    · exact ⟨a, List.mem_cons_self, ha⟩
theorem le_sum {l : List Nat} {y : Nat} (h : y ∈ l) : y ≤ l.sum := by
  induction l with
  | nil => cases h
  | cons a l ih =>
    rw [List.sum_cons]
    rcases List.mem_cons.mp h with e | h
    · omega
    · have := ih h
      omega
/-- some wiping ahead -/
theorem ways_step {n : Nat} {b : List Int} {x : Int} : ways (n + 1) b x ≠ 0 ↔ ∃ p ∈ pairsOf b.length, ways n (wp b p.1 p.2) x ≠ 0 := by
  constructor
  · intro h
    obtain ⟨y, hy, h2⟩ := sum_ne h
    obtain ⟨p, hp, rfl⟩ := List.mem_map.mp hy
    exact ⟨p, hp, h2⟩
  · rintro ⟨p, hp, h⟩
    have := le_sum (List.mem_map.mpr ⟨p, hp, rfl⟩ : ways n (wp b p.1 p.2) x ∈ (pairsOf b.length).map fun p => ways n (wp b p.1 p.2) x)
    show ((pairsOf b.length).map fun p => ways n (wp b p.1 p.2) x).sum ≠ 0
    omega
theorem ways_range {m : Int} : ∀ {n : Nat} {b : List Int} {x : Int}, (∀ y ∈ b, 0 ≤ y ∧ y ≤ m) → ways n b x ≠ 0 → 0 ≤ x ∧ x ≤ m
  | 0, b, x, hb, h => by
    have e : b = [x] := by
      by_cases e : b = [x]
      · exact e
      · exact absurd (if_neg e) h
    rw [e] at hb
    exact hb x List.mem_cons_self
  | n + 1, b, x, hb, h => by
    obtain ⟨p, hp, h2⟩ := ways_step.mp h
    obtain ⟨h0, h1, h3⟩ := pairs_mem hp
    exact ways_range (wp_bound h0 h1 h3 hb) h2
theorem ways_odd : ∀ {n : Nat} {b : List Int} {x : Int}, ways n b x ≠ 0 → x % 2 = b.sum % 2
  | 0, b, x, h => by
    have e : b = [x] := by
      by_cases e : b = [x]
      · exact e
      · exact absurd (if_neg e) h
    rw [e]
    simp
  | n + 1, b, x, h => by
    obtain ⟨p, hp, h2⟩ := ways_step.mp h
    obtain ⟨h0, h1, h3⟩ := pairs_mem hp
    rw [ways_odd h2, wp_sum h0 h1 h3]
theorem ways_some : ∀ {n : Nat} {b : List Int}, b.length = n + 1 → ∃ x, ways n b x ≠ 0
  | 0, b, h => by
    obtain ⟨x, rfl⟩ := List.length_eq_one_iff.mp h
    exact ⟨x, by show (if [x] = [x] then 1 else 0) ≠ 0; rw [if_pos rfl]; decide⟩
  | n + 1, b, h => by
    have hp : ((0 : Int), (1 : Int)) ∈ pairsOf b.length := mem_pairs (by decide) (by decide) (by omega)
    obtain ⟨x, hx⟩ := ways_some (n := n) (b := wp b 0 1) (by have := wp_len (ns := b) (i := 0) (j := 1) (by decide) (by decide) (by omega); omega)
    exact ⟨x, ways_step.mpr ⟨_, hp, hx⟩⟩
def wys (b : List Int) (x : Int) : Nat := ways (b.length - 1) b x
theorem wys_perm {b c : List Int} (h : b.Perm c) (x : Int) : wys b x = wys c x := by
  unfold wys
  rw [h.length_eq]
  exact ways_perm _ x _ _ h
theorem wys_step {b : List Int} (h : 2 ≤ b.length) (x : Int) : wys b x = ((pairsOf b.length).map fun p => wys (wp b p.1 p.2) x).sum := by
  unfold wys
  obtain ⟨n, hn⟩ : ∃ n, b.length = n + 2 := ⟨b.length - 2, by omega⟩
  rw [hn]
  show ((pairsOf b.length).map fun p => ways n (wp b p.1 p.2) x).sum = _
  rw [hn]
  congr 1
  refine List.map_congr_left fun p hp => ?_
  obtain ⟨h0, h1, h2⟩ := pairs_mem hp
  have := wp_len (ns := b) h0 h1 (by omega)
  rw [show (wp b p.1 p.2).length - 1 = n by omega]
end Lw

--@ uses: math_ways
namespace Lw
/-! ### the number that a row of wipings leaves -/
def leftB : List Int → List (Int × Int) → Option Int
  | b, [] => if b.length = 1 then some (b.getD 0 0) else none
  | b, p :: ps => if 0 ≤ p.1 ∧ p.1 < p.2 ∧ p.2 < b.length then leftB (wp b p.1 p.2) ps else none
def optV : Option Int → V
  | none => .non
  | some x => .int x
theorem leftB_ok {b : List Int} {p : Int × Int} {ps : List (Int × Int)} (h : 0 ≤ p.1 ∧ p.1 < p.2 ∧ p.2 < b.length) : leftB b (p :: ps) = leftB (wp b p.1 p.2) ps := by
  show (if _ then _ else _) = _
  rw [if_pos h]
theorem leftB_no {b : List Int} {p : Int × Int} {ps : List (Int × Int)} (h : ¬ (0 ≤ p.1 ∧ p.1 < p.2 ∧ p.2 < b.length)) : leftB b (p :: ps) = none := by
  show (if _ then _ else _) = _
  rw [if_neg h]
theorem optV_scal (o : Option Int) (x : Int) : scal (optV o) (.int x) = true := by
  cases o <;> rfl
theorem optV_eq (o : Option Int) (x : Int) : decide (optV o = V.int x) = decide (o = some x) := by
  cases o with
  | none => rw [decide_eq_false (fun z => nomatch z), decide_eq_false (fun z => nomatch z)]
  | some y => exact decide_eq_decide.mpr ⟨fun z => congrArg some (V.int.inj z), fun z => congrArg V.int (Option.some.inj z)⟩
/-- one more wiping is none -/
theorem leftB_more {x : Int} {q : Int × Int} : ∀ {ps : List (Int × Int)} {b : List Int}, leftB b ps = some x → leftB b (ps ++ [q]) = none
  | [], b, h => by
    have h1 : b.length = 1 := by
      by_cases h1 : b.length = 1
      · exact h1
      · rw [show leftB b [] = none from if_neg h1] at h
        cases h
    exact leftB_no (by omega)
  | p :: ps, b, h => by
    by_cases hp : 0 ≤ p.1 ∧ p.1 < p.2 ∧ p.2 < b.length
    · rw [leftB_ok hp] at h
      rw [List.cons_append, leftB_ok hp]
      exact leftB_more h
    · rw [leftB_no hp] at h
      cases h
/-- as many wipings as there are numbers, less one -/
theorem leftB_len {x : Int} : ∀ {ps : List (Int × Int)} {b : List Int}, leftB b ps = some x → ps.length + 1 = b.length
  | [], b, h => by
    have h1 : b.length = 1 := by
      by_cases h1 : b.length = 1
      · exact h1
      · rw [show leftB b [] = none from if_neg h1] at h
        cases h
    rw [h1]
    rfl
  | p :: ps, b, h => by
    by_cases hp : 0 ≤ p.1 ∧ p.1 < p.2 ∧ p.2 < b.length
    · rw [leftB_ok hp] at h
      have := leftB_len h
      have := wp_len hp.1 hp.2.1 hp.2.2
      rw [List.length_cons]
      omega
    · rw [leftB_no hp] at h
      cases h
theorem leftB_one {x : Int} : leftB [x] [] = some x := rfl
theorem leftB_two {x a b : Int} {ps : List (Int × Int)} (h : leftB [a, b] ps = some x) : ps = [(0, 1)] := by
  have hl := leftB_len h
  obtain ⟨p, rfl⟩ : ∃ p, ps = [p] := List.length_eq_one_iff.mp (by simpa using hl)
  by_cases hp : 0 ≤ p.1 ∧ p.1 < p.2 ∧ p.2 < ([a, b] : List Int).length
  · have h3 : p.2 < 2 := hp.2.2
    rw [show p = (0, 1) from Prod.ext (by show p.1 = 0; omega) (by show p.2 = 1; omega)]
  · rw [leftB_no hp] at h
    cases h
end Lw

namespace Lw
section
variable {P : Program} {w : World} {K : PySem.W.Frag} {mg : Str → Option Value} {base : Heap}
def oddOf (n : Int) : Int := n * (n + 1) / 2 % 2
def hiOf (n : Int) : Int := if n % 2 = oddOf n then n else n - 1
theorem back_U {xs : List V} : Back (NU xs) := fun H1 H2 v H3 e ⟨p, h1, h2, h3⟩ => ⟨p, h1, fresh_back e h2, h3⟩
theorem ex_u {te : TE} {σ : L2.St} {H : Hp} {xs : List V} (h : EvU te σ H xs) : EvX te σ H (NU xs) := fun H1 e Q q => h H1 e Q fun p H2 hp e2 h2 => q _ H2 e2 ⟨p, rfl, hp, h2⟩
theorem eu_x {te : TE} {σ : L2.St} {H : Hp} {xs : List V} (h : EvX te σ H (NU xs)) : EvU te σ H xs := fun H1 e Q q => h H1 e Q fun v H2 e2 ⟨p, hv, hp, h2⟩ => by
  subst hv
  exact q p H2 hp e2 h2
def spBounds : Sp := fun vs H Q _ => ∃ n : Int, vs = [.int n] ∧ 1 ≤ n ∧ n ≤ 10 ^ 40 ∧ RetX (NU [.int (oddOf n), .int (hiOf n)]) H Q
theorem ok_bounds_of {f : Addr} {fd : FuncData} (D : Df K mg "bounds_of" s_bounds_of ["many"] f fd) (T : Blt mg) : FnOk P w K mg base CX0 1 f fd ["many"] spBounds := by
  have ND := sc_bounds_of.nd
  refine D.F.ok sc_bounds_of (fun vs H Q E h => ?_) (fun cdv A outer s H vs Q E hr h => ?_)
  · obtain ⟨n, rfl, _⟩ := h
    rfl
  · obtain ⟨n, rfl, h1, h2, q⟩ := h
    refine ⟨_, (pss_cons /- 23 -/ (ps_set (i := 1) ND rfl (by first | exact .inl rfl | exact .inr rfl) (pe_op op_mod (pe_op op_fdivW (pe_op op_mulZ (pv 0) (pe_op op_add (pv 0) pe_int)) pe_int) pe_int))
      (pss_one /- 24 -/ (ps_ret (pe_tup (pa_cons (pv 1) (pa_cons (pe_ifExp (pt_cmpR op_eq (pe_op op_mod (pv 0) pe_int) (pv 1) (nomark _)) (pv 0) (pe_op op_sub (pv 0) pe_int)) pa_nil)))))), ?_⟩
    have z : (10 : Nat) ^ 40 < 2 ^ 140 := by decide
    have z2 : (10 : Int) ^ 40 = ((10 ^ 40 : Nat) : Int) := by decide
    have mo : IntMulOk n (n + 1) := mulOk (a := 140) (b := 141) (by omega) (by omega) (by decide)
    refine q_asg (v := .int (oddOf n)) (ev_op (ev_op (ev_op (ev_var rfl) (ev_op (ev_var rfl) ev_c rv_I0) (rv_I mo)) ev_c (rv_I (divOk (by decide) (by decide)))) ev_c (rv_I (show (0 : Int) < 2 by decide))) fun H1 e1 => ?_
    refine s_retX (ex_u (eu_tup (ea_cons (ev_var rfl) (ea_cons (x := .int (hiOf n)) (ev_if (b := decide (V.int (n % 2) = V.int (oddOf n))) (et_test (ev_op (ev_op (ev_var rfl) ev_c (rv_I (show (0 : Int) < 2 by decide))) (ev_var rfl) (rv_eq rfl))) (fun h => ?_) (fun h => ?_)) ea_nil)) (by show 2 ≤ 100000; decide))) fun v H2 e2 hv => q v H2 (e1.trans e2) (back_U _ _ _ _ e1 hv)
    · have := V.int.inj (of_decide_eq_true h)
      unfold hiOf
      rw [if_pos this]
      exact ev_var rfl
    · have : ¬ n % 2 = oddOf n := fun z => of_decide_eq_false h (congrArg V.int z)
      unfold hiOf
      rw [if_neg this]
      exact ev_op (ev_var rfl) ev_c rv_I0
theorem sx_bounds {n : Int} {H : Hp} (h1 : 1 ≤ n) (h2 : n ≤ 10 ^ 40) : SpX spBounds [.int n] H (NU [.int (oddOf n), .int (hiOf n)]) := fun H1 e Q q E => ⟨n, rfl, h1, h2, q⟩
end
end Lw

--@ uses: math_wp
namespace Lw
/-! ### the first place of a number; two numbers taken out -/
structure FirstAt (ns : List Int) (x : Int) (k i : Nat) : Prop where
  ge : k ≤ i
  at' : ns[i]? = some x
  no : ∀ m, k ≤ m → m < i → ns[m]? ≠ some x
theorem first_of {ns : List Int} {x : Int} {k : Nat} : ∀ (d : Nat) {i : Nat}, i = k + d → ns[i]? = some x → ∃ j, j ≤ i ∧ FirstAt ns x k j
  | 0, i, hi, h => ⟨i, Nat.le_refl _, by omega, h, fun m h1 h2 => by omega⟩
  | d + 1, i, hi, h => by
    by_cases hz : ∃ m, k ≤ m ∧ m < i ∧ ns[m]? = some x
    · obtain ⟨m, h1, h2, h3⟩ := hz
      -- go down to the least
      have : ∀ (e : Nat) (m : Nat), m = k + e → ns[m]? = some x → ∃ j, j ≤ m ∧ FirstAt ns x k j := by
        intro e
        induction e using Nat.strongRecOn with
        | ind e ih =>
          intro m hm hx
          by_cases hz : ∃ n, k ≤ n ∧ n < m ∧ ns[n]? = some x
          · obtain ⟨n, g1, g2, g3⟩ := hz
            obtain ⟨j, j1, j2⟩ := ih (n - k) (by omega) n (by omega) g3
            exact ⟨j, by omega, j2⟩
          · exact ⟨m, Nat.le_refl _, by omega, hx, fun n g1 g2 g3 => hz ⟨n, g1, g2, g3⟩⟩
      obtain ⟨j, j1, j2⟩ := this (m - k) m (by omega) h3
      exact ⟨j, by omega, j2⟩
    · exact ⟨i, Nat.le_refl _, by omega, h, fun m h1 h2 h3 => hz ⟨m, h1, h2, h3⟩⟩
theorem perm_erase {ns : List Int} {i : Nat} {x : Int} (h : ns[i]? = some x) : ns.Perm (x :: ns.eraseIdx i) := by
  induction ns generalizing i with
  | nil => simp at h
  | cons a ns ih =>
    cases i with
    | zero =>
      rw [List.getElem?_cons_zero] at h
      cases h
      exact List.Perm.refl _
    | succ i =>
      rw [List.getElem?_cons_succ] at h
      rw [List.eraseIdx_cons_succ]
      exact ((ih h).cons a).trans (List.Perm.swap x a _)
/-- two places, i < j -/
theorem perm_two {ns : List Int} {i j : Nat} {x y : Int} (hij : i < j) (hi : ns[i]? = some x) (hj : ns[j]? = some y) : ns.Perm (y :: x :: (ns.eraseIdx j).eraseIdx i) := by
  have h1 := perm_erase hj
  have h2 : (ns.eraseIdx j)[i]? = some x := by rw [List.getElem?_eraseIdx_of_lt hij]; exact hi
  exact h1.trans ((perm_erase h2).cons y)
theorem wp_perm {ns R : List Int} {x y : Int} {i j : Nat} (hp : ns.Perm (x :: y :: R)) (hne : i ≠ j) (hi : ns[i]? = some x) (hj : ns[j]? = some y) :
    (0 : Int) ≤ ((min i j : Nat) : Int) ∧ ((min i j : Nat) : Int) < ((max i j : Nat) : Int) ∧ ((max i j : Nat) : Int) < ns.length ∧ (wp ns ((min i j : Nat) : Int) ((max i j : Nat) : Int)).Perm (((x - y).natAbs : Int) :: R) := by
  have li := (List.getElem?_eq_some_iff.mp hi).1
  have lj := (List.getElem?_eq_some_iff.mp hj).1
  have g : ∀ {k : Nat} {z : Int}, ns[k]? = some z → ns.getD k 0 = z := fun {k z} h => by rw [List.getD_eq_getElem?_getD, h]; rfl
  refine ⟨by omega, by omega, by omega, ?_⟩
  rw [wp_eq (by omega) (by omega) (by omega), Int.toNat_natCast, Int.toNat_natCast]
  rcases Nat.lt_or_gt_of_ne hne with h | h
  · rw [Nat.min_eq_left (Nat.le_of_lt h), Nat.max_eq_right (Nat.le_of_lt h), g hi, g hj]
    have h1 := (perm_two h hi hj).symm.trans hp
    have h2 : (y :: x :: (ns.eraseIdx j).eraseIdx i).Perm (y :: x :: R) := h1.trans (List.Perm.swap y x R)
    exact (List.perm_append_comm.trans (List.Perm.cons _ h2.cons_inv.cons_inv))
  · rw [Nat.min_eq_right (Nat.le_of_lt h), Nat.max_eq_left (Nat.le_of_lt h), g hi, g hj]
    have h1 := (perm_two h hj hi).symm.trans hp
    have e : ((y - x).natAbs : Int) = ((x - y).natAbs : Int) := by omega
    rw [e]
    exact (List.perm_append_comm.trans (List.Perm.cons _ h1.cons_inv.cons_inv))
/-- where both stand -/
theorem put_at {ns R : List Int} {x y : Int} (hp : ns.Perm (x :: y :: R)) : ∃ i j, FirstAt ns x 0 i ∧ FirstAt ns y (if x = y then i + 1 else 0) j ∧ i ≠ j := by
  obtain ⟨i0, hi0⟩ := List.mem_iff_getElem?.mp (hp.mem_iff.mpr List.mem_cons_self)
  obtain ⟨i, _, hi⟩ := first_of (k := 0) i0 (by omega) hi0
  have h1 : (ns.eraseIdx i).Perm (y :: R) := ((perm_erase hi.at').symm.trans hp).cons_inv
  obtain ⟨k, hk⟩ := List.mem_iff_getElem?.mp (h1.mem_iff.mpr List.mem_cons_self)
  by_cases hxy : x = y
  · have hk2 : i ≤ k := by
      by_cases hlt : k < i
      · rw [List.getElem?_eraseIdx_of_lt hlt] at hk
        exact absurd (hxy ▸ hk) (hi.no k (Nat.zero_le _) hlt)
      · omega
    rw [List.getElem?_eraseIdx_of_ge hk2] at hk
    obtain ⟨j, _, hj⟩ := first_of (k := i + 1) (k - i) (by omega) hk
    exact ⟨i, j, hi, by rw [if_pos hxy]; exact hj, by have := hj.ge; omega⟩
  · have hmem : ∃ j0 : Nat, ns[j0]? = some y := List.mem_iff_getElem?.mp (hp.mem_iff.mpr (List.mem_cons_of_mem _ List.mem_cons_self))
    obtain ⟨j0, hj0⟩ := hmem
    obtain ⟨j, _, hj⟩ := first_of (k := 0) j0 (by omega) hj0
    refine ⟨i, j, hi, by rw [if_neg hxy]; exact hj, fun z => hxy ?_⟩
    have := hi.at'
    rw [z, hj.at'] at this
    exact (Option.some.inj this).symm
end Lw

--@ uses: math_left bounds_of math_put
namespace Lw
/-! ### the row 1 .. n led to a number -/
def asc (n : Nat) : List Int := (List.range n).map fun i : Nat => (1 : Int) + (i : Int)
def othersOf (n : Nat) (x : Int) : List Int := (asc n).reverse.filter fun y => !decide (y = x)
def pairUp : List Int → List Int
  | a :: b :: r => (a - b) :: pairUp r
  | r => r
theorem pairUp_two (a b : Int) (r : List Int) : pairUp (a :: b :: r) = (a - b) :: pairUp r := rfl
theorem pairUp_few : ∀ {o : List Int}, o.length ≤ 1 → pairUp o = o
  | [], _ => rfl
  | [_], _ => rfl
  | a :: b :: r, h => by simp at h
/-- few: all 0 or 1, or one 2 at the end behind a 1 -/
def J (ms : List Int) : Prop := (∀ x ∈ ms, 0 ≤ x ∧ x ≤ 1) ∨ ∃ pre, ms = pre ++ [1, 2] ∧ ∀ x ∈ pre, 0 ≤ x ∧ x ≤ 1
def JB (ms : List Int) : Bool := ms.all (fun x => decide (0 ≤ x) && decide (x ≤ 1)) || match ms.reverse with
  | a :: b :: r => decide (a = 2) && (decide (b = 1) && r.all fun x => decide (0 ≤ x) && decide (x ≤ 1))
  | _ => false
theorem all01 {ms : List Int} (h : ms.all (fun x => decide (0 ≤ x) && decide (x ≤ 1)) = true) : ∀ x ∈ ms, 0 ≤ x ∧ x ≤ 1 := fun x hx => by
  have := List.all_eq_true.mp h x hx
  simp only [Bool.and_eq_true, decide_eq_true_eq] at this
  exact this
theorem J_of {ms : List Int} (h : JB ms = true) : J ms := by
  unfold JB at h
  rcases (Bool.or_eq_true _ _).mp h with h | h
  · exact .inl (all01 h)
  · cases e : ms.reverse with
    | nil => rw [e] at h; cases h
    | cons a r =>
      cases r with
      | nil => rw [e] at h; cases h
      | cons b r =>
        rw [e] at h
        have h' : (decide (a = 2) && (decide (b = 1) && r.all fun x => decide (0 ≤ x) && decide (x ≤ 1))) = true := h
        simp only [Bool.and_eq_true, decide_eq_true_eq] at h'
        obtain ⟨h1, h2, h3⟩ := h'
        refine .inr ⟨r.reverse, ?_, fun x hx => ?_⟩
        · have := congrArg List.reverse e
          rw [List.reverse_reverse] at this
          rw [this, h1, h2]
          simp
        · have := List.all_eq_true.mp h3 x (List.mem_reverse.mp hx)
          simp only [Bool.and_eq_true, decide_eq_true_eq] at this
          exact this
/-- the two greatest give way to their difference -/
theorem J_step {pre : List Int} {c a : Int} (h : J (pre ++ [c, a])) (hca : c ≤ a) : ∀ x ∈ srt (pre ++ [a - c]), 0 ≤ x ∧ x ≤ 1 := by
  intro x hx
  have hx' := (srt_perm _).mem_iff.mp hx
  rcases h with h | ⟨p, e, h⟩
  · rcases List.mem_append.mp hx' with g | g
    · exact h x (List.mem_append_left _ g)
    · rw [List.mem_singleton.mp g]
      have h1 := h a (by simp)
      have h2 := h c (by simp)
      omega
  · have e2 : pre = p ∧ [c, a] = [1, 2] := List.append_inj' e rfl
    obtain ⟨rfl, e3⟩ := e2
    have e4 := List.cons.inj e3
    have e5 := List.cons.inj e4.2
    rcases List.mem_append.mp hx' with g | g
    · exact h x g
    · rw [List.mem_singleton.mp g, e4.1, e5.1]
      decide
theorem J_one {s : Int} (h : J [s]) : 0 ≤ s ∧ s ≤ 1 := by
  rcases h with h | ⟨p, e, _⟩
  · exact h s List.mem_cons_self
  · have := congrArg List.length e
    simp at this
theorem row_J : ∀ n ∈ List.range 61, ∀ x ∈ List.range 61, x ≤ n → (x : Int) % 2 = oddOf (n : Int) → ¬ (n = 2 ∧ x = 1) → ¬ (n = 3 ∧ x = 2) → JB (srt (pairUp (othersOf n (x : Int)))) = true := by
  decide +kernel
theorem asc_len (n : Nat) : (asc n).length = n := by
  unfold asc
  rw [List.length_map, List.length_range]
theorem asc_sorted (n : Nat) : (asc n).Pairwise (· < ·) := List.pairwise_map.mpr (List.pairwise_lt_range.imp fun {a b} h => by omega)
theorem others_desc (n : Nat) (x : Int) : (othersOf n x).Pairwise (fun a b => b ≤ a) := List.Pairwise.filter _ (List.pairwise_reverse.mpr ((asc_sorted n).imp fun {a b} h => by omega))
theorem asc_mem {n : Nat} {x : Int} : x ∈ asc n ↔ 1 ≤ x ∧ x ≤ n := by
  unfold asc
  rw [List.mem_map]
  constructor
  · rintro ⟨i, hi, rfl⟩
    have := List.mem_range.mp hi
    omega
  · intro h
    exact ⟨(x - 1).toNat, List.mem_range.mpr (by omega), by omega⟩
/-- the row: the others, and the number -/
theorem asc_perm {n : Nat} {x : Int} (h0 : 0 ≤ x) (h : x ≤ n) : (asc n).Perm (othersOf n x ++ if 0 < x then [x] else []) := by
  have hnd : (asc n).Nodup := (asc_sorted n).imp fun {a b} h => by omega
  have hno : (othersOf n x).Nodup := List.Pairwise.filter _ ((List.reverse_perm _).nodup_iff.mpr hnd)
  have hm : ∀ y, y ∈ othersOf n x ↔ y ∈ asc n ∧ y ≠ x := fun y => by
    unfold othersOf
    rw [List.mem_filter, List.mem_reverse]
    simp
  by_cases hx : 0 < x
  · rw [if_pos hx]
    refine (List.perm_ext_iff_of_nodup hnd ?_).mpr fun y => ?_
    · refine List.nodup_append.mpr ⟨hno, by simp, fun a ha b hb => ?_⟩
      rw [List.mem_singleton.mp hb]
      exact ((hm a).mp ha).2
    · rw [List.mem_append, hm, List.mem_singleton]
      constructor
      · intro hy
        by_cases z : y = x
        · exact .inr z
        · exact .inl ⟨hy, z⟩
      · rintro (⟨h1, _⟩ | h1)
        · exact h1
        · rw [h1]
          exact asc_mem.mpr ⟨by omega, h⟩
  · rw [if_neg hx, List.append_nil]
    refine (List.perm_ext_iff_of_nodup hnd hno).mpr fun y => ?_
    rw [hm]
    exact ⟨fun hy => ⟨hy, fun z => by have := (asc_mem.mp hy).1; omega⟩, fun hy => hy.1⟩
theorem perm_sum {l m : List Int} (h : l.Perm m) : l.sum = m.sum := by
  induction h with
  | nil => rfl
  | cons x _ ih => rw [List.sum_cons, List.sum_cons, ih]
  | swap x y l => rw [List.sum_cons, List.sum_cons, List.sum_cons, List.sum_cons]; omega
  | trans _ _ a b => exact a.trans b
theorem asc_sum : ∀ n : Nat, 2 * (asc n).sum = (n : Int) * ((n : Int) + 1)
  | 0 => by decide
  | n + 1 => by
    have ih := asc_sum n
    have e : asc (n + 1) = asc n ++ [(1 : Int) + (n : Int)] := by
      unfold asc
      rw [List.range_succ, List.map_append]
      rfl
    have e2 : ((n + 1 : Nat) : Int) * (((n + 1 : Nat) : Int) + 1) = (n : Int) * ((n : Int) + 1) + 2 * ((n : Int) + 1) := by
      rw [Int.natCast_add]
      have := Int.add_mul (n : Int) 1 ((n : Int) + 1 + 1)
      have h2 := Int.mul_add (n : Int) ((n : Int) + 1) 1
      push_cast
      omega
    rw [e, List.sum_append, e2]
    simp only [List.sum_cons, List.sum_nil]
    omega
theorem asc_odd (n : Nat) : (asc n).sum % 2 = oddOf (n : Int) := by
  unfold oddOf
  rw [← asc_sum n]
  congr 1
  omega
end Lw

namespace Lw
open PySem PySem.Spec PyProof.Rows L2 Evl
/-! ### x in a tuple of data -/
def rInDT (K : PySem.W.Frag) : R2 := fun x y H Q => ∃ d ds, Dp K H x d ∧ Dp K H y (.tuple ds) ∧ SeqAt.shaped d = true ∧ SeqAt.shaped (.tuple ds) = true ∧ Q (.bl (ds.any fun z => PyData.eqv z d)) H
/-- xs.index(y, i): the first place from i on -/
def rIndexF (K : PySem.W.Frag) : V → List V → Hp → VK → Prop := fun x xs H Q => ∃ (a : Addr) (ys : List V) (y : V) (i j : Nat) (z : V), x = V.ref a ∧ xs = [y, .int (i : Int)] ∧ SqL K H a ys ∧ flatV y = true ∧ ys.all flatV = true ∧ i ≤ j ∧ ys[j]? = some z ∧ eqV z y = true ∧
  (∀ (m : Nat) (z' : V), i ≤ m → m < j → ys[m]? = some z' → eqV z' y = false) ∧ Q (.int (j : Nat)) H
def tLstRg3 (ta : TA) : TE := fun σ H Q => ta σ H fun vs H1 => ∃ (i j k : Int) (n : Nat), vs = [.int i, .int j, .int k] ∧ (k ≠ 0 ∧ k.natAbs < 1073741824 ∧ Builtin.Range.small i j k = true ∧ Builtin.Range.rangeSize i j k = n ∧ n ≤ 2 ^ 24) ∧
  ∀ q, H1 q = none → Q (.ref q) (upd H1 q (.lst ((List.range n).map fun m : Nat => V.int (i + (m : Int) * k))))
section
variable {X : Cx}
theorem op_inDT (hu : X.A.units + 65 < cLine) : OpR X (compareOp .In) (rInDT X.K) := by
  intro pins s σ H x y v u Q I rx ry h
  obtain ⟨d, ds, hd, he, sd, se, q⟩ := h
  obtain ⟨as, r1⟩ := Dp.reads I d x v hd rx
  obtain ⟨bs, r2⟩ := Dp.reads I (.tuple ds) y u he ry
  exact SeqAt.in_tuple_reads r2 r1 (SeqAt.canLay_of_shaped se) (SeqAt.canLay_of_shaped sd) (room_in_shaped sd hu) ⟨.bl _, H, I, rfl, q⟩
theorem kInDT {K : PySem.W.Frag} (h : X.K = K) (hu : X.A.units + 65 < cLine) : OpR X (compareOp .In) (rInDT K) := h ▸ op_inDT hu
theorem mt_indexF : MtR X "list.index" (rIndexF X.K) := by
  intro pins s σ H x xs v us Q I rx rxs h
  obtain ⟨a, ys, y, i, j, z, rfl, rfl, hs, fy, fys, hij, hz, hzj, hno, q⟩ := h
  cases rx
  obtain ⟨uy, ui, rfl, ry, ri⟩ := vals2 rxs
  obtain ⟨ti, rfl⟩ := (show ∃ t, ui = Value.int (i : Int) t from ri)
  obtain ⟨its, rv, ⟨⟨cls, dd, data, sl⟩, n, ho, hc, hdn, hd⟩, hlen⟩ := I.list hs
  simp only at hc hd
  subst hc hd
  obtain ⟨u, hu, ru⟩ := rv.get hz
  obtain ⟨hjl, hje⟩ := List.getElem?_eq_some_iff.mp hu
  have hvl := rv.length
  have hj : j < its.toArray.size := by simpa using hjl
  have hsl := sizeLine_eq
  have hf : SeqAt.searchFrom (i : Int) its.toArray.size = i := SeqAt.searchFrom_nat i _
  refine call_meets PySem.F.slot_list_index ⟨_, ho, rfl⟩ PySem.F.entry_list_index (PySem.F.args_list_index_3 _ _ _)
    (SeqAt.list_index3_found a its.toArray n dd sl uy (fun m => match its[m]? with | some u => eqU y u | none => false) (i : Int) ti j hj (by rw [hf]; exact hij) (by omega) ?_ ?_) ⟨ho, fun m hm => ?_, ?_⟩
  · show (match its[j]? with | some u => eqU y u | none => false) = true
    rw [hu]
    show eqU y u = true
    rw [eqU_of ru (flat_at fys hz)]
    exact hzj
  · intro m hm h1 hmj
    rw [hf] at h1
    have hml : m < its.length := by simpa using hm
    have hmy : m < ys.length := by omega
    have hy' : ys[m]? = some ys[m] := List.getElem?_eq_getElem hmy
    obtain ⟨u2, hu2, ru2⟩ := rv.get hy'
    show (match its[m]? with | some u => eqU y u | none => false) = false
    rw [hu2]
    show eqU y u2 = false
    rw [eqU_of ru2 (flat_at fys hy')]
    exact hno m _ h1 hmj hy'
  · have hml : m < its.length := by simpa using hm
    have e1 : its.toArray[m] = its[m] := by simp
    have e2 : (match its[m]? with | some u => eqU y u | none => false) = eqU y its[m] := by rw [List.getElem?_eq_getElem hml]
    rw [e1, e2]
    exact mem_eqAt ry fy rv fys _ (List.getElem_mem hml)
  · exact ⟨.int (j : Nat), H, I.tok _, ⟨_, rfl⟩, q⟩
theorem vals_rg3 {a c : Int} {acc : Array Value} {n : Nat} (h : ItemsOf (fun i v => ∃ t, v = .int (a + i * c) t) acc n) : Vals ((List.range n).map fun m : Nat => V.int (a + (m : Int) * c)) acc.toList := by
  have e : acc.toList.length = n := by rw [Array.length_toList]; exact h.1
  rw [← e]
  refine vals_of_get acc.toList _ fun j u hj => ?_
  obtain ⟨t, rfl⟩ := h.2 j u (by rw [← hj, Array.getElem?_toList])
  exact ⟨t, rfl⟩
theorem pe_listRg3 {a b c : Expr} {ta : TA} {p p' pos pos' : Pos} (hc : X.calm = true) (hg : Gl X "list") (hm : X.mg "list" = none) (hg' : Gl X "range") (hm' : X.mg "range" = none) (ha : PA X [a, b, c] ta)
    (hs : starEach [a, b, c] X.env = (false, eval a X.env) :: starEach [b, c] X.env := by rfl) (hpl : (backTo pos' (starEach [b, c] X.env)).any (·.1) = false := by rfl)
    (na : starEach [.Call (.Name "range" p') [a, b, c] [] pos'] X.env = (false, eval (.Call (.Name "range" p') [a, b, c] [] pos') X.env) :: starEach [] X.env := by rfl) : PE X (.Call (.Name "list" p) [.Call (.Name "range" p') [a, b, c] [] pos'] [] pos) (tLstRg3 ta) := by
  refine ⟨fun pins s σ H Q I h => ?_⟩
  refine Call_ (ld_blt I hg hm boot_list (PyProof.Rows.callWith_type1 (args_cons ?_ na) na))
  refine Call_ (ld_blt I hg' hm' boot_range (PyProof.Rows.callWith_type1 (thn (ha.run pos' pins s σ H _ I h) fun us s1 ⟨vs, H1, I1, r1, q1⟩ => ?_) hs hpl))
  obtain ⟨i, j, k, n, e, ⟨c0, c1, c2, c3, c4⟩, q⟩ := q1
  subst e
  cases r1 with
  | cons r rr =>
    cases rr with
    | cons r' rr =>
      cases rr with
      | cons r'' rr =>
        cases rr
        obtain ⟨t, rfl⟩ := r
        obtain ⟨t', rfl⟩ := r'
        obtain ⟨t'', rfl⟩ := r''
        refine call_range_3 c0 ?_ (.inl (PyProof.noPylong_small c1))
        refine args_nil ?_
        have I2 : Inv X pins σ H1 { s1 with heap := s1.heap.push { cls := .type "range", data := .fields #[.int i t, .int j t', .int k t''] } } := I1.kept (t' := s1.toks) fun b o e => Heap.get?_push_of_some _ e
        refine call_list_range (n := n) (I2.ok.hd hc) (IsRange.new ..) c2 c3 c4 fun h' tk acc c' hk e' hi => ?_
        refine ⟨.ref _, upd H1 _ (.lst ((List.range n).map fun m : Nat => V.int (i + (m : Int) * k))), I2.laid hk (Nat.le_refl _) (show ObjOk X.prog X.w _ _ _ (.lst _) from ⟨?_, acc.toList, c', vals_rg3 hi, ?_⟩), rfl, q _ (I2.hok.fresh (Nat.le_refl _))⟩
        · rw [List.length_map, List.length_range, sizeLine_eq]; omega
        · rw [Array.toArray_toList]; exact e'
end
theorem hu65_of {A : Around} {k : Nat} (hr : Room k A) : A.units + 65 < cLine := by have := hr.un; omega
end Lw

--@ uses: math_wp
namespace Lw
section
variable {P : Program} {w : World} {K : PySem.W.Frag} {mg : Str → Option Value} {base : Heap}
theorem in_pair {k i j : Int} : inV (.int k) [.int i, .int j] = decide (k = i ∨ k = j) := by
  show (([.int i, .int j] : List V).any fun y => eqV y (.int k)) = _
  simp only [List.any_cons, List.any_nil, eqV, Bool.or_false]
  rw [Bool.eq_iff_iff]
  simp only [Bool.or_eq_true, beq_iff_eq, decide_eq_true_eq]
  omega
def spWipedOf : Sp := fun vs H Q _ => ∃ (a t : Addr) (ns : List Int) (i j : Int), vs = [.ref a, .ref t] ∧ H a = some (.lst (ns.map V.int)) ∧ H t = some (.tup [.int i, .int j]) ∧ 0 ≤ i ∧ i < j ∧ j < ns.length ∧ ns.length ≤ 1000 ∧ RetL ((wp ns i j).map V.int) H Q
theorem ok_wiped_of {f : Addr} {fd : FuncData} (D : Df K mg "wiped_of" s_wiped_of ["board", "wiping"] f fd) (T : Blt mg) : FnOk P w K mg base CX0 1 f fd ["board", "wiping"] spWipedOf := by
  have ND := sc_wiped_of.nd
  refine D.F.ok sc_wiped_of (fun vs H Q E h => ?_) (fun cdv A outer s H vs Q E hr h => ?_)
  · obtain ⟨a, t, ns, i, j, rfl, _⟩ := h
    rfl
  · obtain ⟨a, t, ns, i, j, rfl, ha, ht, h0, h1, h2, h3, q⟩ := h
    refine ⟨_, (pss_cons /- 14 -/ (ps_asg (pv 1) (kgTup (K := K) (n := 2) rfl rfl (pgs_cons (pg_name (i := 2) ND rfl (by first | exact .inl rfl | exact .inr rfl)) (pgs_cons (pg_name (i := 3) ND rfl (by first | exact .inl rfl | exact .inr rfl)) pgs_nil))))
      (pss_cons /- 15 -/ (ps_setLc (i := 4) (own := [("at", 5), ("number", 6)]) (by rfl) ND rfl rfl (sw_true rfl rfl rfl (by decide +kernel)) (pi_enum (by rfl) T.enumerate (pa_cons (pv 0) pa_nil)) (blkOk_by (own := [("at", 5), ("number", 6)]) (N := ["board", "wiping", "one", "other", "others", "at", "number"]) (sc := defScope s_wiped_of) (by decide +kernel)) (fun _ _ _ _ _ => (kgTup (K := K) (n := 2) rfl rfl (pgs_cons (pg_name (i := 5) ND rfl (.inl rfl)) (pgs_cons (pg_name (i := 6) ND rfl (.inl rfl)) pgs_nil)))) (fun _ _ _ _ _ => (pts_one (pt_cmpR (kNotIn (K := K) rfl) (pv 5) (pv 1) (by rfl)))) (fun _ _ _ _ _ => (pv 6)))
      (pss_one /- 16 -/ (ps_ret (pe_op op_cat (pv 4) (pe_lst (pa_cons (pe_callB kAbs (by rfl) T.abs (by decide +kernel) (pa_cons (pe_op op_sub (pe_ix (kIxL (K := K) rfl) (pv 0) (pv 2) (fun _ _ => rfl)) (pe_ix (kIxL (K := K) rfl) (pv 0) (pv 3) (fun _ _ => rfl))) pa_nil)) pa_nil))))))), ?_⟩
    have hl : (ns.map V.int).length = ns.length := List.length_map _
    refine q_asg2 (ev_var rfl) (st_of ht) fun H1 e1 => ?_
    refine q_asgL (xs := (keepAt i j 0 ns).map V.int) ?_ fun p H2 hp e2 h2' => ?_
    · rw [← keepAt_range, List.map_map]
      have ha1 := e1 _ _ ha
      have ht1 := e1 _ _ ht
      refine el_is (el_lcV (fun m => !decide (((m + 0 : Nat) : Int) = i ∨ ((m + 0 : Nat) : Int) = j)) (fun m => .int (ns.getD m 0)) (ei_enum (ea_cons (ev_var rfl) ea_nil) (sq_of ha1)) (by omega) (fun m x H2 H3 e2 hm y => ?_) gm_two) (by rw [hl]; rfl)
      obtain ⟨U, v, x', rfl, hU, rfl, e3, e4⟩ := y
      cases e3
      obtain ⟨n, hn, rfl⟩ := int_at e4
      refine g_two (H1 := H2) upd_same ⟨rfl, Ex.new hU, et_test ?_, fun _ => ?_⟩
      · refine ev_is (ev_op (ev_var rfl) (ev_var rfl) (rv_niT (st_of ((e2.trans (Ex.new hU)) _ _ ht1)) rfl rfl)) ?_
        rw [in_pair]
        rfl
      · refine ev_is (ev_var rfl) ?_
        rw [List.getD_eq_getElem?_getD, hn]
        rfl
    · have ha2 := e2 _ _ (e1 _ _ ha)
      refine s_retL (xs := (wp ns i j).map V.int) ?_ fun p3 H3 hp3 e3 h3' => q p3 H3 (fresh_back e1 (fresh_back e2 hp3)) ((e1.trans e2).trans e3) h3'
      unfold wp
      rw [List.map_append]
      refine el_cat (ev_var rfl) h2' (el_lst (ea_cons (ev_abs (ev_op (ev_op (ev_var rfl) (ev_var rfl) (rv_ixL (sq_of ha2) (at_int_i h0 (by omega)))) (ev_op (ev_var rfl) (ev_var rfl) (rv_ixL (sq_of ha2) (at_int_i (by omega) h2))) rv_I0)) ea_nil) (show 1 ≤ 100000 by decide)) ?_
      have := keepAt_len_le i j ns 0
      rw [List.length_map]
      show _ + 1 ≤ 100000
      omega
theorem sl_wipedOf {a t : Addr} {ns : List Int} {i j : Int} {H : Hp} (ha : H a = some (.lst (ns.map V.int))) (ht : H t = some (.tup [.int i, .int j])) (h0 : 0 ≤ i) (h1 : i < j) (h2 : j < ns.length) (h3 : ns.length ≤ 1000) : SpL spWipedOf [.ref a, .ref t] H ((wp ns i j).map V.int) :=
  fun H1 e Q q E => ⟨a, t, ns, i, j, rfl, e _ _ ha, e _ _ ht, h0, h1, h2, h3, fun p H2 hp e2 h2 => q p H2 hp e2 h2⟩
end
end Lw

--@ uses: words5 math_put wiped_of
namespace Lw
section
variable {P : Program} {w : World} {K : PySem.W.Frag} {mg : Str → Option Value} {base : Heap}
section
variable {σ : L2.St} {H : Hp} {ta tb te tk : TE}
theorem eqV_int {a b : Int} : eqV (.int a) (.int b) = decide (a = b) := by
  rw [Bool.eq_iff_iff, decide_eq_true_eq]
  simp [eqV]
theorem flat_intsL {ls : List Int} : (ls.map V.int).all flatV = true := by
  rw [List.all_eq_true]
  intro v hv
  obtain ⟨m, _, rfl⟩ := List.mem_map.mp hv
  rfl
theorem ev_index {a : Addr} {ns : List Int} {x : Int} {i : Nat} (ha : Ev ta σ H (.ref a)) (hb : Ev te σ H (.int x)) (hx : SqL K H a (ns.map V.int)) (hf : FirstAt ns x 0 i) : Ev (tBM K "list" (rIndex K) ta (tCons te tNil)) σ H (.int (i : Int)) := fun H1 e Q q =>
  ha H1 e _ fun H2 e2 => ⟨Or.inl ⟨rfl, _, ex_l (e.trans e2) hx⟩, hb H2 (e.trans e2) _ fun H3 e3 => ⟨a, ns.map V.int, .int x, i, .int x, rfl, rfl, ex_l ((e.trans e2).trans e3) hx, rfl, flat_intsL, by rw [List.getElem?_map, hf.at']; rfl, by rw [eqV_int, decide_eq_true rfl], fun m z' hm hz => by
    obtain ⟨n, hn, rfl⟩ := int_at hz
    rw [eqV_int]
    exact decide_eq_false fun h => hf.no m (Nat.zero_le _) hm (by rw [hn, h]), q H3 (e2.trans e3)⟩⟩
theorem ev_indexF {a : Addr} {ns : List Int} {x : Int} {k i : Nat} (ha : Ev ta σ H (.ref a)) (hb : Ev te σ H (.int x)) (hk : Ev tk σ H (.int (k : Int))) (hx : SqL K H a (ns.map V.int)) (hf : FirstAt ns x k i) : Ev (tBM K "list" (rIndexF K) ta (tCons te (tCons tk tNil))) σ H (.int (i : Int)) := fun H1 e Q q =>
  ha H1 e _ fun H2 e2 => ⟨Or.inl ⟨rfl, _, ex_l (e.trans e2) hx⟩, hb H2 (e.trans e2) _ fun H3 e3 => hk H3 ((e.trans e2).trans e3) _ fun H4 e4 => ⟨a, ns.map V.int, .int x, k, i, .int x, rfl, rfl, ex_l (((e.trans e2).trans e3).trans e4) hx, rfl, flat_intsL, hf.ge, by rw [List.getElem?_map, hf.at']; rfl, by rw [eqV_int, decide_eq_true rfl], fun m z' hm1 hm hz => by
    obtain ⟨n, hn, rfl⟩ := int_at hz
    rw [eqV_int]
    exact decide_eq_false fun h => hf.no m hm1 hm (by rw [hn, h]), q H4 ((e2.trans e3).trans e4)⟩⟩
theorem ev_min2 {i j : Int} (ha : Ev ta σ H (.int i)) (hb : Ev tb σ H (.int j)) : Ev (tCB (fun xs H Q => ∃ i j, xs = [.int i, .int j] ∧ Q (.int (if j < i then j else i)) H) (tCons ta (tCons tb tNil))) σ H (.int (if j < i then j else i)) := fun H1 e Q q =>
  ha H1 e _ fun H2 e2 => hb H2 (e.trans e2) _ fun H3 e3 => ⟨i, j, rfl, q H3 (e2.trans e3)⟩
theorem ev_max2' {i j : Int} (ha : Ev ta σ H (.int i)) (hb : Ev tb σ H (.int j)) : Ev (tCB (fun xs H Q => ∃ i j, xs = [.int i, .int j] ∧ Q (.int (if j > i then j else i)) H) (tCons ta (tCons tb tNil))) σ H (.int (if j > i then j else i)) := fun H1 e Q q =>
  ha H1 e _ fun H2 e2 => hb H2 (e.trans e2) _ fun H3 e3 => ⟨i, j, rfl, q H3 (e2.trans e3)⟩
end
def spPutIn : Sp := fun vs H Q _ => ∃ (a l : Addr) (ns R : List Int) (x y : Int) (ws : List V) (ps : List (Int × Int)), vs = [.ref a, .int x, .int y, .ref l] ∧ H a = some (.lst (ns.map V.int)) ∧ H l = some (.lst ws) ∧ a ≠ l ∧ ns.Perm (x :: y :: R) ∧ Prs H ws ps ∧ ns.length ≤ 1000 ∧ ps.length ≤ 1000 ∧
  ∀ (a' t : Addr) (p : Int × Int) (H' : Hp), ExS [l] H H' → H a' = none → H' a' = some (.lst ((wp ns p.1 p.2).map V.int)) → (0 ≤ p.1 ∧ p.1 < p.2 ∧ p.2 < ns.length) → (wp ns p.1 p.2).Perm (((x - y).natAbs : Int) :: R) → H' l = some (.lst (ws ++ [.ref t])) → Prs H' (ws ++ [.ref t]) (ps ++ [p]) → Q (.ref a') H'
theorem ok_put_in {f f1 : Addr} {fd fd1 : FuncData} (D : Df K mg "put_in" s_put_in ["board", "one", "other", "found"] f fd) (T : Blt mg)
    (o_wiped_of : Ok P w K mg base CX0 1 "wiped_of" s_wiped_of ["board", "wiping"] spWipedOf f1 fd1) : FnOk P w K mg base CX0 2 f fd ["board", "one", "other", "found"] spPutIn := by
  have ND := sc_put_in.nd
  refine D.F.ok sc_put_in (fun vs H Q E h => ?_) (fun cdv A outer s H vs Q E hr h => ?_)
  · obtain ⟨a, l, ns, R, x, y, ws, ps, rfl, _⟩ := h
    rfl
  · obtain ⟨a, l, ns, R, x, y, ws, ps, rfl, ha, hl, al, hp, hps, hn, hpl, q⟩ := h
    refine ⟨_, (pss_cons /- 29 -/ (ps_set (i := 4) ND rfl (by first | exact .inl rfl | exact .inr rfl) (pe_bm PySem.F.plainAttrs_list PySem.F.slot_list_index PySem.F.type_list_index mt_index (pv 0) (pa_cons (pv 1) pa_nil)))
      (pss_cons /- 30 -/ (ps_set (i := 5) ND rfl (by first | exact .inl rfl | exact .inr rfl) (pe_ifExp (pt_cmpR op_eq (pv 1) (pv 2) (nomark _)) (pe_bm PySem.F.plainAttrs_list PySem.F.slot_list_index PySem.F.type_list_index mt_indexF (pv 0) (pa_cons (pv 2) (pa_cons (pe_op op_add (pv 4) pe_int) pa_nil))) (pe_bm PySem.F.plainAttrs_list PySem.F.slot_list_index PySem.F.type_list_index mt_index (pv 0) (pa_cons (pv 2) pa_nil))))
      (pss_cons /- 31 -/ (ps_expr (pe_bm PySem.F.plainAttrs_list PySem.F.slot_list_append PySem.F.type_list_append mt_append (pv 3) (pa_cons (pe_tup (pa_cons (pe_callB (call_min2 rfl) (by rfl) T.min (by decide +kernel) (pa_cons (pv 4) (pa_cons (pv 5) pa_nil))) (pa_cons (pe_callB (call_max2 rfl) (by rfl) T.max (by decide +kernel) (pa_cons (pv 4) (pa_cons (pv 5) pa_nil))) pa_nil))) pa_nil)))
      (pss_one /- 32 -/ (ps_ret (pe_call o_wiped_of.G (hr.mono (by first | decide | omega)) rfl o_wiped_of.D.g o_wiped_of.D.F.kp o_wiped_of.D.b .nil pass0 (pa_cons (pv 0) (pa_cons (pe_ix (kIxL (K := K) rfl) (pv 3) (pe_un un_neg pe_int) (fun _ _ => rfl)) pa_nil)))))))), ?_⟩
    obtain ⟨i, j, hi, hj, hne⟩ := put_at hp
    obtain ⟨w0, w1, w2, w3⟩ := wp_perm hp hne hi.at' hj.at'
    refine q_asg (v := .int (i : Int)) (ev_index (ev_var rfl) (ev_var rfl) (sq_of ha) hi) fun H1 e1 => ?_
    have ha1 := e1 _ _ ha
    refine q_asg (v := .int (j : Int)) (ev_if (b := decide (V.int x = V.int y)) (et_test (ev_op (ev_var rfl) (ev_var rfl) (rv_eq rfl))) (fun h => ?_) (fun h => ?_)) fun H2 e2 => ?_
    · have hxy := V.int.inj (of_decide_eq_true h)
      rw [if_pos hxy] at hj
      exact ev_indexF (k := i + 1) (ev_var rfl) (ev_var rfl) (ev_is (ev_op (ev_var rfl) ev_c rv_I0) (congrArg V.int (by omega))) (sq_of ha1) hj
    · have hxy : ¬ x = y := fun z => of_decide_eq_false h (congrArg V.int z)
      rw [if_neg hxy] at hj
      exact ev_index (ev_var rfl) (ev_var rfl) (sq_of ha1) hj
    · have e12 := e1.trans e2
      have hl2 := e12 _ _ hl
      have hwl := hps.len
      have em : (if (j : Int) < (i : Int) then (j : Int) else (i : Int)) = ((min i j : Nat) : Int) := by
        by_cases h : (j : Int) < (i : Int)
        · rw [if_pos h, Nat.min_eq_right (by omega)]
        · rw [if_neg h, Nat.min_eq_left (by omega)]
      have eM : (if (j : Int) > (i : Int) then (j : Int) else (i : Int)) = ((max i j : Nat) : Int) := by
        by_cases h : (j : Int) > (i : Int)
        · rw [if_pos h, Nat.max_eq_right (by omega)]
        · rw [if_neg h, Nat.max_eq_left (by omega)]
      refine q_appU (l := l) (ys := [.int ((min i j : Nat) : Int), .int ((max i j : Nat) : Int)]) hl2 (ev_var rfl) (eu_tup (ea_cons (ev_is (ev_min2 (ev_var rfl) (ev_var rfl)) (congrArg V.int em)) (ea_cons (ev_is (ev_max2' (ev_var rfl) (ev_var rfl)) (congrArg V.int eM)) ea_nil)) (by show 2 ≤ 100000; decide)) (by omega) fun t H3 ht e3 ht3 => ?_
      have hl3 := e3 _ _ hl2
      have tl : t ≠ l := ne_of ht3 hl3 (fun z => nomatch z)
      have haA : (upd H3 l (.lst (ws ++ [.ref t]))) a = some (.lst (ns.map V.int)) := by
        rw [upd_ne al]
        exact (e12.trans e3) _ _ ha
      have htA : (upd H3 l (.lst (ws ++ [.ref t]))) t = some (.tup [.int ((min i j : Nat) : Int), .int ((max i j : Nat) : Int)]) := by
        rw [upd_ne tl]
        exact ht3
      have hpA : Prs (upd H3 l (.lst (ws ++ [.ref t]))) (ws ++ [.ref t]) (ps ++ [(((min i j : Nat) : Int), ((max i j : Nat) : Int))]) :=
        Prs.stay (D := l) (acc := ws) hl3 (fun a' o na ho => by rw [upd_ne na]; exact ho) (((hps.mono e12).mono e3).append (.cons ⟨t, rfl, ht3⟩ .nil))
      refine s_retL (el_call (ea_cons (ev_var rfl) (ea_cons (ev_op (ev_var rfl) (ev_un ev_c ru_neg) (rv_ixL (sq_of upd_same) (atI_last _ _))) ea_nil)) (sl_wipedOf haA htA w0 w1 w2 hn)) fun a' H4 ha' e4 h4 => ?_
      have hl4 := e4 _ _ (upd_same (H := H3) (a := l) (o := .lst (ws ++ [.ref t])))
      refine q a' t (((min i j : Nat) : Int), ((max i j : Nat) : Int)) H4 (((ExS.of (e12.trans e3)).put List.mem_cons_self).trans (ExS.of e4)) ?_ h4 ⟨w0, w1, w2⟩ w3 hl4 (hpA.mono e4)
      have al' : a' ≠ l := fun z => by
        rw [z, upd_same] at ha'
        cases ha'
      rw [upd_ne al'] at ha'
      exact fresh_back (e12.trans e3) ha'
end
end Lw

namespace Lw
section
variable {P : Program} {w : World} {K : PySem.W.Frag} {mg : Str → Option Value} {base : Heap}
/-- whether it is a whole number, by its kind -/
def spIsWhole (K : PySem.W.Frag) : Sp := fun vs H Q _ => ∃ (x : V) (m : String) (a c : Bool), vs = [x] ∧ (∀ H1, Ex H H1 → TyX K H1 x (.type m)) ∧ kitB m "int" = some a ∧ kitB m "bool" = some c ∧ RetV (.bl (a && !c)) H Q
theorem ok_is_whole {f : Addr} {fd : FuncData} (D : Df K mg "is_whole" s_is_whole ["thing"] f fd) (T : Blt mg) : FnOk P w K mg base CX0 1 f fd ["thing"] (spIsWhole K) := by
  have ND := sc_is_whole.nd
  refine D.F.ok sc_is_whole (fun vs H Q E h => ?_) (fun cdv A outer s H vs Q E hr h => ?_)
  · obtain ⟨x, m, a, c, rfl, _⟩ := h
    rfl
  · obtain ⟨x, m, a, c, rfl, tx, k1, k2, q⟩ := h
    refine ⟨_, (pss_one /- 12 -/ (ps_ret (pe_and (pe_callB (kIsi (K := K) rfl) (by rfl) T.isinstance (by decide +kernel) (pa_cons (pv 0) (pa_cons (pe_bltn (v := .ty "int") (by rfl) T.int boot_int rfl) pa_nil))) (pe_one (pe_not (pe_callB (kIsi (K := K) rfl) (by rfl) T.isinstance (by decide +kernel) (pa_cons (pv 0) (pa_cons (pe_bltn (v := .ty "bool") (by rfl) T.bool boot_bool rfl) pa_nil)))))))), ?_⟩
    refine s_ret (v := .bl (a && !c)) ?_ fun H1 e1 => q H1 e1
    refine ev_andV (ev_isi (ev_var rfl) ev_c tx k1) fun _ => ev_notV (ev_isi (ev_var rfl) ev_c tx k2)
/-- of a whole number -/
theorem spIsWhole_int {i : Int} {H : Hp} {Q : VK} {E : XK} (q : RetV (.bl true) H Q) : spIsWhole K [.int i] H Q E := ⟨.int i, "int", true, false, rfl, fun _ _ => .base (.int i), by decide +kernel, by decide +kernel, q⟩
theorem sv_isWhole {i : Int} {H : Hp} : SpV (spIsWhole K) [.int i] H (.bl true) := fun H1 e Q q E => spIsWhole_int fun H2 e2 => q H2 e2
end
end Lw

--@ uses: is_whole
namespace Lw
section
variable {P : Program} {w : World} {K : PySem.W.Frag} {mg : Str → Option Value} {base : Heap}
def spAskedMany : Sp := fun vs H Q _ => ∃ x : Int, vs = [.int x] ∧ 1 ≤ x ∧ RetV .non H Q
theorem ok_asked_many {f f1 : Addr} {fd fd1 : FuncData} (D : Df K mg "asked_many" s_asked_many ["many"] f fd) (T : Blt mg)
    (o_is_whole : Ok P w K mg base CX0 1 "is_whole" s_is_whole ["thing"] (spIsWhole K) f1 fd1) : FnOk P w K mg base CX0 2 f fd ["many"] spAskedMany := by
  have ND := sc_asked_many.nd
  refine D.F.ok sc_asked_many (fun vs H Q E h => ?_) (fun cdv A outer s H vs Q E hr h => ?_)
  · obtain ⟨x, rfl, _⟩ := h
    rfl
  · obtain ⟨x, rfl, h0, q⟩ := h
    refine ⟨_, (pss_one /- 20 -/ (ps_if (PW.pt (pw_or (pt_not (pt_val (pe_call o_is_whole.G (hr.mono (by first | decide | omega)) rfl o_is_whole.D.g o_is_whole.D.F.kp o_is_whole.D.b .nil pass0 (pa_cons (pv 0) pa_nil)))) (pw_or1 (pt_cmpR op_lt (pv 0) pe_int (nomark _)))))
        (pss_one /- 21 -/ ps_never)
        pss_nil)), ?_⟩
    refine s_when (b := false) ?_ (fun h => nomatch h) fun _ H1 e1 => q H1 e1
    refine et_is (et_or (et_not (et_B (ev_call (ea_cons (ev_var rfl) ea_nil) sv_isWhole))) fun _ => et_test (ev_op (ev_var rfl) ev_c rv_I0)) ?_
    rw [decide_eq_false (by omega)]
    rfl
theorem sv_askedMany {x : Int} {H : Hp} (h : 1 ≤ x) : SpV spAskedMany [.int x] H .non := fun H1 e Q q E => ⟨x, rfl, h, q⟩
end
end Lw

--@ uses: math_row put_in asked_many bounds_of
namespace Lw
section
variable {P : Program} {w : World} {K : PySem.W.Frag} {mg : Str → Option Value} {base : Heap}
section
variable {σ : L2.St} {H : Hp} {ta tb te tl : TE} {tr : TA} {D : Ends} {tz : TS} {v u : V}
theorem el_rg2 {a b : Int} (ha : Ev ta σ H (.int a)) (hb : Ev tb σ H (.int b)) (ok : RgOk a b) : EvL (tLstRg (tRg2 ta tb)) σ H (rgV a b) := fun H1 e Q q =>
  ha H1 e _ fun H2 e2 => hb H2 (e.trans e2) _ fun H3 e3 => ⟨a, b, rfl, rfl, ok, fun p hp => q p _ (fresh_back (e2.trans e3) hp) ((e2.trans e3).trans (Ex.new hp)) upd_same⟩
theorem rgV_asc {n : Nat} : rgV 1 ((n : Int) + 1) = (asc n).map V.int := by
  unfold rgV asc
  rw [show ((n : Int) + 1 - 1).toNat = n by omega, List.map_map]
  rfl
theorem q_asg2N {i j : Nat} (h : EvU te σ H [v, u]) (k : ∀ H1, Ex H H1 → tz D ((σ.set i (some v)).set j (some u)) H1) : tSeq (tAsg te (gTup K 2 (gCons (gName i) (gCons (gName j) gNil)))) tz D σ H :=
  h H (Ex.refl H) _ fun T H1 _ e hT => ⟨T, [v, u], rfl, st_of hT, rfl, v, [u], rfl, u, [], rfl, rfl, k H1 e⟩
theorem ev_inDT {α : Type} [DecidableEq α] [Dt α] {x : α} {xs : List α} {bb : Bool} (hbb : x ∈ xs ↔ bb = true) (ha : EvD K ta σ H x) (hb : EvX tb σ H (fun _ v H2 => Dp K H2 v (.tuple (xs.map Dt.toD)))) (hd : Dt.dep α + 1 ≤ 64 := by decide) : Ev (tOp (rInDT K) ta tb) σ H (.bl bb) := fun H1 e Q q =>
  ha H1 e _ fun v H2 e2 a => hb H2 (e.trans e2) _ fun w H3 e3 b => by
    refine ⟨_, _, a.mono e3, b, shaped_dt (by omega) x, ?_, ?_⟩
    · have h := shaped_dt (α := List α) hd xs
      unfold SeqAt.shaped at h ⊢
      simp only [Dt.toD, PyData.canLay0, PyData.depth] at h ⊢
      exact h
    · have ez : ((xs.map Dt.toD).any fun z => PyData.eqv z (Dt.toD x)) = bb := by
        rw [List.any_map, Bool.eq_iff_iff, List.any_eq_true, ← hbb]
        constructor
        · rintro ⟨y, hy, h⟩
          have h' : PyData.eqv (Dt.toD y) (Dt.toD x) = true := h
          rw [Dt.eqv, decide_eq_true_eq] at h'
          exact h' ▸ hy
        · intro h
          refine ⟨x, h, ?_⟩
          show PyData.eqv (Dt.toD x) (Dt.toD x) = true
          rw [Dt.eqv, decide_eq_true rfl]
      rw [ez]
      exact q H3 (e2.trans e3)
theorem dp_two {i j i' j' : Int} (h1 : EvU ta σ H [.int i, .int j]) (h2 : EvU tb σ H [.int i', .int j']) : EvX (tTup (tCons ta (tCons tb tNil))) σ H (fun _ v H2 => Dp K H2 v (.tuple ([(i, j), (i', j')].map Dt.toD))) := fun H1 e Q q =>
  h1 H1 e _ fun p H2 _ e2 g2 => h2 H2 (e.trans e2) _ fun p' H3 _ e3 g3 => ⟨sz_of (show 2 ≤ 100000 by decide), fun t ht => q _ _ ((e2.trans e3).trans (Ex.new ht)) (.tup (st_of upd_same) (.cons (at_pair (K := K) ((e3.trans (Ex.new ht)) _ _ g2)) (.cons (at_pair (K := K) ((Ex.new ht) _ _ g3)) .nil)))⟩
theorem el_catVV {xs ys : List V} {a b : Addr} (ha : Ev ta σ H (.ref a)) (hx : H a = some (.lst xs)) (hb : Ev tb σ H (.ref b)) (hy : H b = some (.lst ys)) (hz : xs.length + ys.length ≤ 100000) : EvL (tOp rCat ta tb) σ H (xs ++ ys) := fun H1 e Q q =>
  ha H1 e _ fun H2 e2 => hb H2 (e.trans e2) _ fun H3 e3 => ⟨a, b, xs, ys, rfl, rfl, ((e.trans e2).trans e3) a _ hx, ((e.trans e2).trans e3) b _ hy, sz_of hz, fun p hp => q p _ (fresh_back (e2.trans e3) hp) ((e2.trans e3).trans (Ex.new hp)) upd_same⟩
theorem cut_two {x y : V} {xs : List V} : cutV (x :: y :: xs) (some 2) none = xs := by
  unfold cutV
  rw [HT.sIx_none, show (some (2 : Int)) = some ((2 : Nat) : Int) from rfl, HT.sIx_nat, List.length_cons, List.length_cons, Nat.min_eq_left (by omega)]
  show xs.take (xs.length + 1 + 1 - 2) = xs
  rw [show xs.length + 1 + 1 - 2 = xs.length by omega, List.take_length]
theorem cut_back2 {x y : V} {xs : List V} : cutV (xs ++ [x, y]) none (some (-2)) = xs := by
  have hl : (xs ++ [x, y]).length = xs.length + 2 := by simp
  unfold cutV
  rw [HT.sIx_none, List.drop_zero, Nat.sub_zero, hl]
  have e : HT.sIx (xs.length + 2) (xs.length + 2) (some (-2)) = xs.length := by
    show (if (-2 : Int) < 0 then ((-2 : Int) + ((xs.length + 2 : Nat) : Int)).toNat else min (-2 : Int).toNat (xs.length + 2)) = xs.length
    rw [if_pos (by decide)]
    omega
  rw [e, List.take_left]
theorem at_two {pre : List Int} {c a : Int} : atI ((pre ++ [c, a]).map V.int) (-1) = some (.int a) ∧ atI ((pre ++ [c, a]).map V.int) (-2) = some (.int c) := by
  have hl : ((pre ++ [c, a]).map V.int).length = pre.length + 2 := by simp
  constructor
  · have e : ixN ((pre ++ [c, a]).map V.int).length (-1) = some (pre.length + 1) := by
      unfold ixN
      rw [hl, if_neg (by decide), if_pos (by omega)]
      congr 1
      omega
    unfold atI
    rw [e]
    show ((pre ++ [c, a]).map V.int)[pre.length + 1]? = _
    simp
  · have e : ixN ((pre ++ [c, a]).map V.int).length (-2) = some pre.length := by
      unfold ixN
      rw [hl, if_neg (by decide), if_pos (by omega)]
      congr 1
      omega
    unfold atI
    rw [e]
    show ((pre ++ [c, a]).map V.int)[pre.length]? = _
    simp
theorem given_filter (p : Int → Bool) : ∀ xs : List Int, given xs.length (fun i => p (xs.getD i 0)) (fun i => .int (xs.getD i 0)) = (xs.filter p).map V.int
  | [] => rfl
  | x :: r => by
    have ih := given_filter p r
    unfold given at ih ⊢
    rw [List.length_cons, List.range_succ_eq_map, List.filter_cons, List.filter_map]
    have e1 : ((fun i => p ((x :: r).getD i 0)) ∘ Nat.succ) = fun i => p (r.getD i 0) := rfl
    rw [e1]
    have e2 : (List.map (fun i => V.int ((x :: r).getD i 0)) (List.map Nat.succ (List.filter (fun i => p (r.getD i 0)) (List.range r.length)))) = (r.filter p).map V.int := by
      rw [List.map_map, ← ih]
      rfl
    by_cases h : p x = true
    · rw [if_pos (by exact h), List.map_cons, e2, List.filter_cons_of_pos h]
      rfl
    · rw [if_neg (by exact h), e2, List.filter_cons_of_neg h]
end
def NRow (n : Nat) (x : Int) : Hp → V → Hp → Prop := fun H1 v H2 => ∃ (l : Addr) (ws : List V) (ps : List (Int × Int)), v = .ref l ∧ H1 l = none ∧ H2 l = some (.lst ws) ∧ Prs H2 ws ps ∧ leftB (asc n) ps = some x
theorem back_Row {n : Nat} {x : Int} : Back (NRow n x) := fun H1 H2 v H3 e ⟨l, ws, ps, h1, h2, h3⟩ => ⟨l, ws, ps, h1, fresh_back e h2, h3⟩
def spRowLed : Sp := fun vs H Q _ => ∃ (n : Nat) (x : Int), vs = [.int (n : Int), .int x] ∧ 1 ≤ n ∧ n ≤ 60 ∧ oddOf n ≤ x ∧ x ≤ hiOf n ∧ x % 2 = oddOf n ∧ RetX (NRow n x) H Q
theorem odd01 (n : Int) : 0 ≤ oddOf n ∧ oddOf n ≤ 1 := by
  unfold oddOf
  omega
theorem hi_le (n : Int) : hiOf n ≤ n := by
  unfold hiOf
  split <;> omega
theorem s_asgSE {σ : L2.St} {H : Hp} {tr : TA} {D : Ends} {RA : List V → Hp → Prop} {sp : Sp} {dvs : List V} {E : XK} {i : Nat} (h : EvAX tr σ H RA) (k : ∀ vs H1, Ex H H1 → RA vs H1 → sp (vs ++ dvs) H1 (fun v H2 => D.nx (σ.set i (some v)) H2) E) : tAsg (tCall sp dvs E tr) (gName i) D σ H :=
  h H (Ex.refl _) _ fun vs H1 e r => k vs H1 e r
theorem eax_E {σ : L2.St} {H : Hp} {tr : TA} {vs : List V} (h : EvA tr σ H vs) : EvAX tr σ H (fun ws H1 => ws = vs ∧ Ex H H1) := fun H1 e Q q => h H1 e _ fun H2 e2 => q _ H2 e2 ⟨rfl, e.trans e2⟩
theorem ex_if {σ : L2.St} {H : Hp} {t : TT} {ta tb : TE} {R : Hp → V → Hp → Prop} {b : Bool} (hR : Back R) (h : EvT t σ H b) (h1 : b = true → EvX ta σ H R) (h2 : b = false → EvX tb σ H R) : EvX (tIf t ta tb) σ H R := fun H1 e Q q => h H1 e _ fun H2 e2 => by
  cases b with
  | true =>
    show ta σ H2 Q
    exact h1 rfl H2 (e.trans e2) Q fun v H3 e3 r => q v H3 (e2.trans e3) (hR _ _ _ _ e2 r)
  | false =>
    show tb σ H2 Q
    exact h2 rfl H2 (e.trans e2) Q fun v H3 e3 r => q v H3 (e2.trans e3) (hR _ _ _ _ e2 r)
theorem ex_catP' {σ : L2.St} {H : Hp} {ta tb : TE} {a : Addr} {ws : List V} {ps qs : List (Int × Int)} (ha : Ev ta σ H (.ref a)) (hx : H a = some (.lst ws)) (hp : Prs H ws ps) (hb : EvX tb σ H (NP qs)) (hz : ps.length + qs.length ≤ 100000) : EvX (tOp rCat ta tb) σ H (NP (ps ++ qs)) := fun H1 e Q q =>
  ha H1 e _ fun H2 e2 => hb H2 (e.trans e2) _ fun v H3 e3 ⟨b, us, ev, _, h3, h4⟩ => by
    subst ev
    have e13 := e2.trans e3
    refine ⟨a, b, ws, us, rfl, rfl, (e.trans e13) a _ hx, h3, sz_of (by rw [hp.len, h4.len]; exact hz), fun p hp' => q _ _ (e13.trans (Ex.new hp')) ⟨p, _, rfl, fresh_back e13 hp', upd_same, ?_⟩⟩
    exact ((hp.mono (e.trans e13)).append h4).mono (Ex.new hp')
theorem ex_lstP1 {σ : L2.St} {H : Hp} {te : TE} {i j : Int} (h : EvU te σ H [.int i, .int j]) : EvX (tLst (tCons te tNil)) σ H (NP [(i, j)]) := fun H1 e Q q =>
  h H1 e _ fun p H2 hp e2 h2 => ⟨sz_of (show 1 ≤ 100000 by decide), fun l hl => q _ _ (e2.trans (Ex.new hl)) ⟨l, _, rfl, fresh_back e2 hl, upd_same, .cons ⟨p, rfl, by rw [upd_ne (ne_of_none h2 hl)]; exact h2⟩ .nil⟩⟩
theorem ok_row_led {f f1 f2 f3 f4 : Addr} {fd fd1 fd2 fd3 fd4 : FuncData} {t1 : Tok} (D : Df K mg "row_led" s_row_led ["many", "last"] f fd) (T : Blt mg) (c_MOST_ROW : mg "MOST_ROW" = some (.int 60 t1))
    (o_asked_many : Ok P w K mg base CX0 2 "asked_many" s_asked_many ["many"] spAskedMany f1 fd1)
    (o_is_whole : Ok P w K mg base CX0 1 "is_whole" s_is_whole ["thing"] (spIsWhole K) f2 fd2)
    (o_bounds_of : Ok P w K mg base CX0 1 "bounds_of" s_bounds_of ["many"] spBounds f3 fd3)
    (o_put_in : Ok P w K mg base CX0 2 "put_in" s_put_in ["board", "one", "other", "found"] spPutIn f4 fd4) : FnOk P w K mg base CX0 3 f fd ["many", "last"] spRowLed := by
  have ND := sc_row_led.nd
  refine D.F.ok sc_row_led (fun vs H Q E h => ?_) (fun cdv A outer s H vs Q E hr h => ?_)
  · obtain ⟨n, x, rfl, _⟩ := h
    rfl
  · obtain ⟨n, x, rfl, n1, n60, xl, xh, xp, q⟩ := h
    refine ⟨_, (pss_cons /- 34 -/ (ps_expr (pe_call o_asked_many.G (hr.mono (by first | decide | omega)) rfl o_asked_many.D.g o_asked_many.D.F.kp o_asked_many.D.b .nil pass0 (pa_cons (pv 0) pa_nil)))
      (pss_cons /- 35 -/ (ps_if (pt_cmpR op_gt (pv 0) (pe_glob (v := .int 60) rfl c_MOST_ROW ⟨_, rfl⟩) (nomark _))
        (pss_one /- 36 -/ ps_never)
        pss_nil)
      (pss_cons /- 37 -/ (ps_if (pt_not (pt_val (pe_call o_is_whole.G (hr.mono (by first | decide | omega)) rfl o_is_whole.D.g o_is_whole.D.F.kp o_is_whole.D.b .nil pass0 (pa_cons (pv 1) pa_nil))))
        (pss_one /- 38 -/ ps_never)
        pss_nil)
      (pss_cons /- 39 -/ (ps_asg (pe_call o_bounds_of.G (hr.mono (by first | decide | omega)) rfl o_bounds_of.D.g o_bounds_of.D.F.kp o_bounds_of.D.b .nil pass0 (pa_cons (pv 0) pa_nil)) (kgTup (K := K) (n := 2) rfl rfl (pgs_cons (pg_name (i := 2) ND rfl (by first | exact .inl rfl | exact .inr rfl)) (pgs_cons (pg_name (i := 3) ND rfl (by first | exact .inl rfl | exact .inr rfl)) pgs_nil))))
      (pss_cons /- 40 -/ (ps_if (PW.pt (pw_or (pt_not (pt_chain op_le op_le (pv 2) (pv 1) (pv 3))) (pw_or1 (pt_cmpR op_ne (pe_op op_mod (pv 1) pe_int) (pv 2) (nomark _)))))
        (pss_one /- 41 -/ ps_never)
        pss_nil)
      (pss_cons /- 42 -/ (ps_par (i := 4) (j := 5) (by rfl) ND rfl rfl (by decide) rfl rfl (pa_cons (pe_listRg rfl (by rfl) T.list (prg_2 (by rfl) T.range pe_int (pe_op op_add (pv 0) pe_int))) (pa_cons (pe_lst pa_nil) pa_nil)) (by rfl))
      (pss_cons /- 43 -/ (ps_if (pt_cmpR (kInDT (K := K) rfl (hu65_of hr)) (pe_tup (pa_cons (pv 0) (pa_cons (pv 1) pa_nil))) (pe_tup (pa_cons (pe_tup (pa_cons pe_int (pa_cons pe_int pa_nil))) (pa_cons (pe_tup (pa_cons pe_int (pa_cons pe_int pa_nil))) pa_nil))) (by rfl))
        (pss_cons /- 44 -/ (ps_set (i := 4) ND rfl (by first | exact .inl rfl | exact .inr rfl) (pe_call o_put_in.G (hr.mono (by first | decide | omega)) rfl o_put_in.D.g o_put_in.D.F.kp o_put_in.D.b .nil pass0 (pa_cons (pv 4) (pa_cons pe_int (pa_cons pe_int (pa_cons (pv 5) pa_nil))))))
        (pss_one /- 45 -/ (ps_ret (pe_ifExp (pt_cmpR op_eq (pv 0) pe_int (nomark _)) (pv 5) (pe_op op_cat (pv 5) (pe_lst (pa_cons (pe_tup (pa_cons pe_int (pa_cons pe_int pa_nil))) pa_nil)))))))
        pss_nil)
      (pss_cons /- 46 -/ (ps_setLc (i := 6) (own := [("number", 8)]) (by rfl) ND rfl rfl (sw_true rfl rfl rfl (by decide +kernel)) (pi_list (kRev (K := K) rfl (pv 4))) (blkOk_by (own := [("number", 8)]) (N := ["many", "last", "low", "high", "board", "found", "others", "small", "number"]) (sc := defScope s_row_led) (by decide +kernel)) (fun _ _ _ _ _ => (pg_name (i := 8) ND rfl (.inl rfl))) (fun _ _ _ _ _ => (pts_one (pt_cmpR op_ne (pv 8) (pv 1) (nomark _)))) (fun _ _ _ _ _ => (pv 8)))
      (pss_cons /- 47 -/ (ps_set (i := 7) ND rfl (by first | exact .inl rfl | exact .inr rfl) (pe_lst pa_nil))
      (pss_cons /- 48 -/ (ps_while PassesOwn.never (pt_cmpR op_gt (pe_callB (kLen (K := K) rfl) (by rfl) T.len PySem.boot_len (pa_cons (pv 6) pa_nil)) pe_int (nomark _))
        (pss_cons /- 49 -/ (ps_set (i := 4) ND rfl (by first | exact .inl rfl | exact .inr rfl) (pe_call o_put_in.G (hr.mono (by first | decide | omega)) rfl o_put_in.D.g o_put_in.D.F.kp o_put_in.D.b .nil pass0 (pa_cons (pv 4) (pa_cons (pe_ix (kIxL (K := K) rfl) (pv 6) pe_int (fun _ _ => rfl)) (pa_cons (pe_ix (kIxL (K := K) rfl) (pv 6) pe_int (fun _ _ => rfl)) (pa_cons (pv 5) pa_nil))))))
        (pss_cons /- 50 -/ (ps_expr (pe_bm PySem.F.plainAttrs_list PySem.F.slot_list_append PySem.F.type_list_append mt_append (pv 7) (pa_cons (pe_op op_sub (pe_ix (kIxL (K := K) rfl) (pv 6) pe_int (fun _ _ => rfl)) (pe_ix (kIxL (K := K) rfl) (pv 6) pe_int (fun _ _ => rfl))) pa_nil)))
        (pss_one /- 51 -/ (ps_set (i := 6) ND rfl (by first | exact .inl rfl | exact .inr rfl) (pe_slice (kSl (K := K) rfl) (pv 6) (po_some pe_int) po_none))))))
      (pss_cons /- 52 -/ (ps_set (i := 7) ND rfl (by first | exact .inl rfl | exact .inr rfl) (pe_callB (kSortI (K := K) rfl) (by rfl) T.sorted (by decide +kernel) (pa_cons (pe_op op_cat (pv 7) (pv 6)) pa_nil)))
      (pss_cons /- 53 -/ (ps_while PassesOwn.never (pt_cmpR op_gt (pe_callB (kLen (K := K) rfl) (by rfl) T.len PySem.boot_len (pa_cons (pv 7) pa_nil)) pe_int (nomark _))
        (pss_cons /- 54 -/ (ps_set (i := 4) ND rfl (by first | exact .inl rfl | exact .inr rfl) (pe_call o_put_in.G (hr.mono (by first | decide | omega)) rfl o_put_in.D.g o_put_in.D.F.kp o_put_in.D.b .nil pass0 (pa_cons (pv 4) (pa_cons (pe_ix (kIxL (K := K) rfl) (pv 7) (pe_un un_neg pe_int) (fun _ _ => rfl)) (pa_cons (pe_ix (kIxL (K := K) rfl) (pv 7) (pe_un un_neg pe_int) (fun _ _ => rfl)) (pa_cons (pv 5) pa_nil))))))
        (pss_one /- 55 -/ (ps_set (i := 7) ND rfl (by first | exact .inl rfl | exact .inr rfl) (pe_callB (kSortI (K := K) rfl) (by rfl) T.sorted (by decide +kernel) (pa_cons (pe_op op_cat (pe_slice (kSl (K := K) rfl) (pv 7) po_none (po_some (pe_un un_neg pe_int))) (pe_lst (pa_cons (pe_op op_sub (pe_ix (kIxL (K := K) rfl) (pv 7) (pe_un un_neg pe_int) (fun _ _ => rfl)) (pe_ix (kIxL (K := K) rfl) (pv 7) (pe_un un_neg pe_int) (fun _ _ => rfl))) pa_nil))) pa_nil))))))
      (pss_cons /- 56 -/ (ps_if (PW.pt (pw_and (pt_cmpR op_gt (pv 1) pe_int (nomark _)) (pw_and1 (pt_cmpR op_gt (pe_callB (kLen (K := K) rfl) (by rfl) T.len PySem.boot_len (pa_cons (pv 4) pa_nil)) pe_int (nomark _)))))
        (pss_one /- 57 -/ (ps_set (i := 4) ND rfl (by first | exact .inl rfl | exact .inr rfl) (pe_call o_put_in.G (hr.mono (by first | decide | omega)) rfl o_put_in.D.g o_put_in.D.F.kp o_put_in.D.b .nil pass0 (pa_cons (pv 4) (pa_cons (pe_ix (kIxL (K := K) rfl) (pv 7) pe_int (fun _ _ => rfl)) (pa_cons (pv 1) (pa_cons (pv 5) pa_nil)))))))
        pss_nil)
      (pss_one /- 58 -/ (ps_ret (pv 5)))))))))))))))), ?_⟩
    have o01 := odd01 (n : Int)
    have hin := hi_le (n : Int)
    have z40 : (60 : Int) ≤ 10 ^ 40 := by decide
    refine q_drop (ev_call (ea_cons (ev_var rfl) ea_nil) (sv_askedMany (by omega))) fun H1 e1 => ?_
    refine q_when (b := false) (et_is (et_test (ev_op (ev_var rfl) ev_c rv_I0)) (decide_eq_false (by omega))) (fun h => nomatch h) fun _ H2 e2 => ?_
    refine q_when (b := false) (et_is (et_not (et_B (ev_call (ea_cons (ev_var rfl) ea_nil) sv_isWhole))) rfl) (fun h => nomatch h) fun _ H3 e3 => ?_
    refine q_asg2N (eu_x (ex_call back_U (ea_cons (ev_var rfl) ea_nil) (sx_bounds (by omega) (by omega)))) fun H4 e4 => ?_
    refine q_when (b := false) ?_ (fun h => nomatch h) fun _ H5 e5 => ?_
    · refine et_is (et_or (et_not (et_test (ev_chain (ev_var rfl) (ev_var rfl) (ev_var rfl) rv_I0 rv_I0))) fun _ => et_test (ev_op (ev_op (ev_var rfl) ev_c (rv_I (show (0 : Int) < 2 by decide))) (ev_var rfl) (rv_ne rfl))) ?_
      rw [decide_eq_true xl, decide_eq_true xh, xp, decide_eq_true rfl]
      rfl
    have e05 := (((e1.trans e2).trans e3).trans e4).trans e5
    refine q_parXX (ex_l' (el_is (el_rg2 ev_c (ev_op (ev_var rfl) ev_c rv_I0) (RgOk.of_le (by omega) (by omega) (by omega) (by omega))) rgV_asc)) (fun _ _ _ _ _ => ex_l' (el_lst ea_nil (by decide))) fun v u H6 H7 e6 e7 ⟨pb, hv, _, hb⟩ ⟨pf, hu', hf0, hf⟩ => ?_
    subst hv hu'
    have hb7 := e7 _ _ hb
    have bf : pb ≠ pf := fun z => by rw [z, hf0] at hb; cases hb
    have hfn : H5 pf = none := fresh_back e6 hf0
    have e57 := e6.trans e7
    have al := asc_len n
    have hbb : ((n : Int), x) ∈ [((2 : Int), (1 : Int)), ((3 : Int), (2 : Int))] ↔ (decide (n = 2 ∧ x = 1) || decide (n = 3 ∧ x = 2)) = true := by
      simp only [List.mem_cons, Prod.mk.injEq, List.not_mem_nil, or_false, Bool.or_eq_true, decide_eq_true_eq]
      omega
    refine q_when (et_test (ev_inDT hbb (ed_u (eu_tup (ea_cons (ev_var rfl) (ea_cons (ev_var rfl) ea_nil)) (by show 2 ≤ 100000; decide))) (dp_two (eu_tup (ea_cons ev_c (ea_cons ev_c ea_nil)) (by show 2 ≤ 100000; decide)) (eu_tup (ea_cons ev_c (ea_cons ev_c ea_nil)) (by show 2 ≤ 100000; decide))))) (fun hs H8 e8 => ?_) (fun hs H8 e8 => ?_)
    · -- the two rows that go their own way
      have hb8 := e8 _ _ hb7
      have hf8 := e8 _ _ hf
      have hcase : (n = 2 ∧ x = 1) ∨ (n = 3 ∧ x = 2) := by
        simpa only [Bool.or_eq_true, decide_eq_true_eq] using hs
      obtain ⟨R, hR⟩ : ∃ R, (asc n).Perm (1 :: 2 :: R) ∧ ((n = 2 ∧ x = 1 ∧ R = []) ∨ (n = 3 ∧ x = 2 ∧ R = [3])) := by
        rcases hcase with ⟨rfl, rfl⟩ | ⟨rfl, rfl⟩
        · exact ⟨[], by decide, .inl ⟨rfl, rfl, rfl⟩⟩
        · exact ⟨[3], by decide, .inr ⟨rfl, rfl, rfl⟩⟩
      refine q_asgS (eax_E (ea_cons (ev_var rfl) (ea_cons ev_c (ea_cons ev_c (ea_cons (ev_var rfl) ea_nil))))) fun vs H9 e9 ⟨hvs, _⟩ => ?_
      subst hvs
      refine ⟨pb, pf, asc n, R, 1, 2, [], [], rfl, e9 _ _ hb8, e9 _ _ hf8, bf, hR.1, .nil, by omega, by show 0 ≤ 1000; decide, fun a' t p HA sA haf hA hpv hpm hfA hpA => ?_⟩
      have eA : Ex H5 HA := ExS.ex (((e57.trans e8).trans e9)) sA fun m hm => by rw [List.mem_singleton.mp hm]; exact hfn
      have key : ∀ qs, leftB (asc n) ([p] ++ qs) = leftB (wp (asc n) p.1 p.2) qs := fun qs => leftB_ok hpv
      rcases hR.2 with ⟨hn, hx, hRR⟩ | ⟨hn, hx, hRR⟩
      · subst hRR
        have hw1 : wp (asc n) p.1 p.2 = [1] := List.perm_singleton.mp hpm
        refine s_retX (R := fun _ v _ => v = .ref pf) (ex_if (b := true) (fun _ _ _ _ _ h => h) (et_is (et_test (ev_op (ev_var rfl) ev_c (rv_eq rfl))) (decide_eq_true (by rw [hn]; rfl))) (fun _ => ex_v (ev_var rfl)) (fun h => nomatch h)) fun v HB eB hv => ?_
        subst hv
        refine q _ HB ((e05.trans eA).trans eB) ⟨pf, _, [p], rfl, fresh_back e05 hfn, eB _ _ hfA, hpA.mono eB, ?_⟩
        have := key []
        rw [List.append_nil] at this
        rw [this, hw1, hx]
        rfl
      · subst hRR
        have hw2 : wp (asc n) p.1 p.2 = [1, 3] ∨ wp (asc n) p.1 p.2 = [3, 1] := by
          have hl := hpm.length_eq
          have h1 : (1 : Int) ∈ wp (asc n) p.1 p.2 := hpm.mem_iff.mpr (by decide)
          have h3 : (3 : Int) ∈ wp (asc n) p.1 p.2 := hpm.mem_iff.mpr (by decide)
          generalize wp (asc n) p.1 p.2 = bb at hl h1 h3
          match bb, hl with
          | [u, v], _ =>
            simp only [List.mem_cons, List.not_mem_nil, or_false] at h1 h3
            rcases h1 with h1 | h1 <;> rcases h3 with h3 | h3
            · omega
            · exact .inl (by rw [← h1, ← h3])
            · exact .inr (by rw [← h1, ← h3])
            · omega
        refine s_retX (R := NP ([p] ++ [(0, 1)])) (ex_if (b := false) back_P (et_is (et_test (ev_op (ev_var rfl) ev_c (rv_eq rfl))) (decide_eq_false (by rw [hn]; decide))) (fun h => nomatch h) (fun _ => ex_catP' (ev_var rfl) hfA hpA (ex_lstP1 (eu_tup (ea_cons ev_c (ea_cons ev_c ea_nil)) (by show 2 ≤ 100000; decide))) (by show 1 + 1 ≤ 100000; decide))) fun v HB eB ⟨pl, ws, hv, hp0, hpl, hps⟩ => ?_
        refine q _ HB ((e05.trans eA).trans eB) ⟨pl, ws, [p] ++ [(0, 1)], hv, fresh_back (e05.trans eA) hp0, hpl, hps, ?_⟩
        rw [key, hx]
        rcases hw2 with h | h
        · rw [h]; decide
        · rw [h]; decide
    · -- the general way
      have hb8 := e8 _ _ hb7
      have hf8 := e8 _ _ hf
      have hnot : ¬ (n = 2 ∧ x = 1) ∧ ¬ (n = 3 ∧ x = 2) := by
        simpa only [Bool.or_eq_false_iff, decide_eq_false_iff_not] using hs
      have x0 : 0 ≤ x := by omega
      have xn : x ≤ n := by omega
      have hJ : J (srt (pairUp (othersOf n x))) := by
        have := row_J n (List.mem_range.mpr (by omega)) x.toNat (List.mem_range.mpr (by omega)) (by omega) (by rw [show ((x.toNat : Nat) : Int) = x by omega]; exact xp) (fun z => hnot.1 ⟨z.1, by omega⟩) (fun z => hnot.2 ⟨z.1, by omega⟩)
        rw [show ((x.toNat : Nat) : Int) = x by omega] at this
        exact J_of this
      have e58 := e57.trans e8
      have rl : ((asc n).reverse.map V.int).length = (asc n).reverse.length := List.length_map _
      refine q_asgL (xs := (othersOf n x).map V.int) ?_ fun po H9 hpo e9 h9 => ?_
      · have hg := given_filter (fun y => !decide (V.int y = V.int x)) (asc n).reverse
        have hfc : (asc n).reverse.filter (fun y => !decide (V.int y = V.int x)) = othersOf n x := List.filter_congr fun y _ => congrArg not (decide_eq_decide.mpr ⟨fun z => V.int.inj z, fun z => congrArg V.int z⟩)
        rw [hfc] at hg
        refine el_is (el_lcV (fun i => !decide (V.int ((asc n).reverse.getD i 0) = V.int x)) (fun i => .int ((asc n).reverse.getD i 0)) (ei_new (el_is (el_rev (ev_var rfl) (sq_of hb8)) (by rw [List.map_reverse] : _ = (asc n).reverse.map V.int))) (by rw [rl, List.length_reverse, al]; omega) (fun i y H2 H3 e2 hi yy => ?_) gm_name) (by rw [rl]; exact hg)
        obtain ⟨rfl, hy⟩ := yy
        obtain ⟨m, hm, rfl⟩ := int_at hy
        have hmd : (asc n).reverse.getD i 0 = m := by rw [List.getD_eq_getElem?_getD, hm]; rfl
        refine ⟨rfl, Ex.refl _, et_test (ev_is (ev_op (ev_var rfl) (ev_var rfl) (rv_ne rfl)) (by rw [hmd])), fun _ => ev_is (ev_var rfl) (by rw [hmd])⟩
      refine q_asgL (xs := []) (el_lst ea_nil (by decide)) fun pm H10 hpm e10 h10 => ?_
      have e5A := (e58.trans e9).trans e10
      have hpmn : H5 pm = none := fresh_back (e58.trans e9) hpm
      have hbA := (e9.trans e10) _ _ hb8
      have hfA := (e9.trans e10) _ _ hf8
      have hoA := e10 _ _ h9
      have pmf : pm ≠ pf := fun z => by
        have := e9 _ _ hf8
        rw [← z, hpm] at this
        cases this
      have pmb : pb ≠ pm := fun z => by
        have := e9 _ _ hb8
        rw [z, hpm] at this
        cases this
      have pom : po ≠ pm := fun z => by rw [z, hpm] at h9; cases h9
      have pof : po ≠ pf := fun z => by rw [z, hf8] at hpo; cases hpo
      obtain ⟨Lx, hLx⟩ : ∃ Lx : List Int, Lx = if 0 < x then [x] else [] := ⟨_, rfl⟩
      have hp0 := asc_perm x0 xn
      rw [← hLx] at hp0
      refine q_while (fun m σ' H' => ∃ pb po y8 b o s ws ps, σ' = [some (.int (n : Int)), some (.int x), some (.int (oddOf n)), some (.int (hiOf n)), some (.ref pb), some (.ref pf), some (.ref po), some (.ref pm), y8] ∧ Ex H5 H' ∧ H' pb = some (.lst (b.map V.int)) ∧ H' po = some (.lst (o.map V.int)) ∧ H' pm = some (.lst (s.map V.int)) ∧ H' pf = some (.lst ws) ∧ Prs H' ws ps ∧ pb ≠ pf ∧ pb ≠ pm ∧ po ≠ pf ∧ po ≠ pm ∧
          b.Perm (o ++ (s ++ Lx)) ∧ o.Pairwise (fun a b => b ≤ a) ∧ s ++ pairUp o = pairUp (othersOf n x) ∧ o.length = m ∧ b.length + ps.length = n ∧ 1 ≤ b.length ∧ b.sum % 2 = x % 2 ∧ ∀ qs v, leftB b qs = some v → leftB (asc n) (ps ++ qs) = some v)
        (othersOf n x).length ⟨pb, po, none, asc n, othersOf n x, [], [], [], rfl, e5A, hbA, hoA, h10, hfA, .nil, bf, pmb, pof, pom, by rw [List.nil_append]; exact hp0, others_desc n x, rfl, rfl, by rw [al]; rfl, by omega, by rw [asc_odd, xp], fun qs v h => h⟩ (fun m σ' H' ⟨pb, po, y8, b, o, s, ws, ps, hs, eW, hb, ho, hm, hf, hps, bf, bm, of', om, hperm, hdesc, hpair, hol, hbl, hb1, hsum, hL⟩ => ?_)
      subst hs
      have oll : (o.map V.int).length = o.length := List.length_map _
      refine ⟨_, et_test (ev_op (ev_len (ev_var rfl) (sq_of ho)) ev_c rv_I0), fun hb2 H11 e11 => ⟨fun σ2 H2 => ∃ m', m' < m ∧ _, fun σ2 H2 h => h, ?_⟩, fun hb2 H11 e11 => ?_⟩
      · -- one pair more
        obtain ⟨a, c, r, rfl⟩ : ∃ a c r, o = a :: c :: r := by
          have h2 : 1 < o.length := by
            have := of_decide_eq_true hb2
            omega
          match o, h2 with
          | a :: c :: r, _ => exact ⟨a, c, r, rfl⟩
        have ho11 := e11 _ _ ho
        have ev0 : ∀ {H' : Hp} {σ : L2.St}, σ[6]? = some (some (.ref po)) → H' po = some (.lst ((a :: c :: r).map V.int)) → Ev (tOp (rIxL K) (tVar 6) (tC (.int 0))) σ H' (.int a) := fun h h' => ev_op (ev_var h) ev_c (rv_ixL (sq_of h') (at_int_i (ns := a :: c :: r) (i := 0) (by decide) (by rw [List.length_cons]; omega)))
        have ev1 : ∀ {H' : Hp} {σ : L2.St}, σ[6]? = some (some (.ref po)) → H' po = some (.lst ((a :: c :: r).map V.int)) → Ev (tOp (rIxL K) (tVar 6) (tC (.int 1))) σ H' (.int c) := fun h h' => ev_op (ev_var h) ev_c (rv_ixL (sq_of h') (at_int_i (ns := a :: c :: r) (i := 1) (by decide) (by rw [List.length_cons, List.length_cons]; omega)))
        refine q_asgS (eax_E (ea_cons (ev_var rfl) (ea_cons (ev0 rfl ho11) (ea_cons (ev1 rfl ho11) (ea_cons (ev_var rfl) ea_nil))))) fun vs H12 e12 ⟨hvs, _⟩ => ?_
        subst hvs
        have e112 := e11.trans e12
        refine ⟨pb, pf, b, r ++ (s ++ Lx), a, c, ws, ps, rfl, e112 _ _ hb, e112 _ _ hf, bf, hperm, hps.mono e112, by omega, by omega, fun a' t p HA sA haf hA hpv hpm' hfA' hpA => ?_⟩
        have eA : Ex H5 HA := ExS.ex (eW.trans e112) sA fun m hm => by rw [List.mem_singleton.mp hm]; exact hfn
        have hmA := sA pm _ (by simp only [List.mem_singleton]; exact pmf) (e112 _ _ hm)
        have hoA' := sA po _ (by simp only [List.mem_singleton]; exact of') (e112 _ _ ho)
        have a1 : a' ≠ pf := fun z => by rw [z, e112 _ _ hf] at haf; cases haf
        have a2 : a' ≠ pm := fun z => by rw [z, e112 _ _ hm] at haf; cases haf
        have hslen : s.length ≤ 60 := by
          have h1 := congrArg List.length hpair
          have h2 : ∀ l : List Int, (pairUp l).length ≤ l.length := by
            intro l
            induction l using pairUp.induct with
            | case1 a b r ih => rw [pairUp_two, List.length_cons, List.length_cons, List.length_cons]; omega
            | case2 r h => cases r with
              | nil => exact Nat.le_refl _
              | cons a r => cases r with
                | nil => exact Nat.le_refl _
                | cons b r => exact absurd rfl (h a b r)
          have h3 := h2 (othersOf n x)
          have h4 : (othersOf n x).length ≤ (asc n).reverse.length := List.length_filter_le _ _
          rw [List.length_reverse, al] at h4
          rw [List.length_append] at h1
          omega
        refine q_app (l := pm) (v := .int (a - c)) hmA (ev_var rfl) (ev_op (ev0 rfl hoA') (ev1 rfl hoA') rv_I0) (by rw [List.length_map]; omega) fun H13 e13 => ?_
        have ho13 : (upd H13 pm (.lst (s.map V.int ++ [.int (a - c)]))) po = some (.lst ((a :: c :: r).map V.int)) := by
          rw [upd_ne om]
          exact e13 _ _ hoA'
        refine s_asgL (xs := r.map V.int) (el_is (el_sl (ev_var rfl) (eo_some ev_c) eo_none (sq_of ho13)) cut_two) fun po' H14 hpo' e14 h14 => ?_
        have hca : c ≤ a := (List.pairwise_cons.mp hdesc).1 c List.mem_cons_self
        have hd : (((a - c).natAbs : Nat) : Int) = a - c := by omega
        rw [hd] at hpm'
        have hf13 : (upd H13 pm (.lst (s.map V.int ++ [.int (a - c)]))) pf = some (.lst (ws ++ [.ref t])) := by
          rw [upd_ne (Ne.symm pmf)]
          exact e13 _ _ hfA'
        refine ⟨m - 2, by rw [List.length_cons, List.length_cons] at hol; omega, a', po', _, wp b p.1 p.2, r, s ++ [a - c], ws ++ [.ref t], ps ++ [p], rfl, ?_, ?_, h14, ?_, e14 _ _ hf13, ?_, a1, a2, ?_, ?_, ?_, (List.pairwise_cons.mp (List.pairwise_cons.mp hdesc).2).2, ?_, ?_, ?_, ?_, ?_, fun qs v hq => ?_⟩
        · exact (Ex.mut (eA.trans e13) hpmn).trans e14
        · refine e14 _ _ ?_
          rw [upd_ne a2]
          exact e13 _ _ hA
        · refine e14 _ _ ?_
          rw [upd_same, List.map_append]
          rfl
        · exact Prs.mono e14 (Prs.stay (D := pm) (acc := s.map V.int) (e13 _ _ hmA) (fun a' o na ho => by rw [upd_ne na]; exact ho) (hpA.mono e13))
        · exact fun z => by rw [z, hf13] at hpo'; cases hpo'
        · exact fun z => by rw [z, upd_same] at hpo'; cases hpo'
        · refine hpm'.trans ?_
          rw [show r ++ (s ++ [a - c] ++ Lx) = (r ++ s) ++ (a - c) :: Lx by simp, ← List.append_assoc]
          exact List.perm_middle.symm
        · rw [← hpair, pairUp_two]
          simp
        · rw [List.length_cons, List.length_cons] at hol
          omega
        · have := wp_len hpv.1 hpv.2.1 hpv.2.2
          rw [List.length_append, List.length_singleton]
          omega
        · have := wp_len hpv.1 hpv.2.1 hpv.2.2
          omega
        · rw [wp_sum hpv.1 hpv.2.1 hpv.2.2, hsum]
        · rw [List.append_assoc]
          refine hL (p :: qs) v ?_
          rw [leftB_ok hpv]
          exact hq
      · -- the small ones
        have ho1 : o.length ≤ 1 := by
          have := of_decide_eq_false hb2
          omega
        rw [pairUp_few ho1] at hpair
        have hm11 := e11 _ _ hm
        have hf11 := e11 _ _ hf
        have hb11 := e11 _ _ hb
        have hsl : s.length ≤ 1000 := by
          have := hperm.length_eq
          rw [List.length_append, List.length_append] at this
          omega
        refine q_asgL (xs := (srt (s ++ o)).map V.int) (el_sortIN (el_is (el_catVV (ev_var rfl) hm11 (ev_var rfl) (e11 _ _ ho) (by rw [List.length_map, List.length_map]; omega)) (by rw [List.map_append]))) fun pms H12 hpms e12 h12 => ?_
        have hJ2 : J (srt (s ++ o)) := by rw [hpair]; exact hJ
        have hpmf : pms ≠ pf := fun z => by rw [z, hf11] at hpms; cases hpms
        have hperm2 : b.Perm (srt (s ++ o) ++ Lx) := by
          refine hperm.trans ?_
          rw [← List.append_assoc]
          exact ((List.perm_append_comm).trans (srt_perm (s ++ o)).symm).append_right Lx
        refine q_while (fun m σ' H' => ∃ pb pms y8 b ms ws ps, σ' = [some (.int (n : Int)), some (.int x), some (.int (oddOf n)), some (.int (hiOf n)), some (.ref pb), some (.ref pf), some (.ref po), some (.ref pms), y8] ∧ Ex H5 H' ∧ H' pb = some (.lst (b.map V.int)) ∧ H' pms = some (.lst (ms.map V.int)) ∧ H' pf = some (.lst ws) ∧ Prs H' ws ps ∧ pb ≠ pf ∧ pms ≠ pf ∧
            b.Perm (ms ++ Lx) ∧ ms.Pairwise (· ≤ ·) ∧ J ms ∧ ms.length = m ∧ b.length + ps.length = n ∧ 1 ≤ b.length ∧ b.sum % 2 = x % 2 ∧ ∀ qs v, leftB b qs = some v → leftB (asc n) (ps ++ qs) = some v)
          (srt (s ++ o)).length ⟨pb, pms, y8, b, srt (s ++ o), ws, ps, rfl, (eW.trans e11).trans e12, e12 _ _ hb11, h12, e12 _ _ hf11, (hps.mono e11).mono e12, bf, hpmf, hperm2, srt_sorted _, hJ2, rfl, hbl, hb1, hsum, hL⟩ (fun m σ' H' ⟨pb, pms, y8, b, ms, ws, ps, hs, eW, hb, hm, hf, hps, bf, mf, hperm, hsort, hJm, hml, hbl, hb1, hsum, hL⟩ => ?_)
        subst hs
        have mll : (ms.map V.int).length = ms.length := List.length_map _
        refine ⟨_, et_test (ev_op (ev_len (ev_var rfl) (sq_of hm)) ev_c rv_I0), fun hb3 H13 e13 => ⟨fun σ2 H2 => ∃ m', m' < m ∧ _, fun σ2 H2 h => h, ?_⟩, fun hb3 H13 e13 => ?_⟩
        · obtain ⟨pre, c, a, rfl⟩ : ∃ pre c a, ms = pre ++ [c, a] := by
            have h2 : 1 < ms.length := by
              have := of_decide_eq_true hb3
              omega
            have hr : 1 < ms.reverse.length := by rw [List.length_reverse]; exact h2
            match e : ms.reverse, hr with
            | a :: c :: r, _ =>
              refine ⟨r.reverse, c, a, ?_⟩
              have := congrArg List.reverse e
              rw [List.reverse_reverse] at this
              rw [this]
              simp
          have hm13 := e13 _ _ hm
          have evA : ∀ {H' : Hp} {σ : L2.St}, σ[7]? = some (some (.ref pms)) → H' pms = some (.lst ((pre ++ [c, a]).map V.int)) → Ev (tOp (rIxL K) (tVar 7) (tUn (rU fun i => .int (-i)) (tC (.int 1)))) σ H' (.int a) := fun h h' => ev_op (ev_var h) (ev_un ev_c ru_neg) (rv_ixL (sq_of h') at_two.1)
          have evC : ∀ {H' : Hp} {σ : L2.St}, σ[7]? = some (some (.ref pms)) → H' pms = some (.lst ((pre ++ [c, a]).map V.int)) → Ev (tOp (rIxL K) (tVar 7) (tUn (rU fun i => .int (-i)) (tC (.int 2)))) σ H' (.int c) := fun h h' => ev_op (ev_var h) (ev_un ev_c ru_neg) (rv_ixL (sq_of h') at_two.2)
          refine q_asgS (eax_E (ea_cons (ev_var rfl) (ea_cons (evA rfl hm13) (ea_cons (evC rfl hm13) (ea_cons (ev_var rfl) ea_nil))))) fun vs H14 e14 ⟨hvs, _⟩ => ?_
          subst hvs
          have e114 := e13.trans e14
          have hca : c ≤ a := by
            have := (List.pairwise_append.mp hsort).2.1
            exact (List.pairwise_cons.mp this).1 a List.mem_cons_self
          have hp2 : b.Perm (a :: c :: (pre ++ Lx)) := by
            refine hperm.trans ?_
            rw [show pre ++ [c, a] ++ Lx = pre ++ c :: a :: Lx by simp]
            refine (List.perm_middle).trans ?_
            exact (((List.perm_middle).cons c)).trans (List.Perm.swap a c _)
          refine ⟨pb, pf, b, pre ++ Lx, a, c, ws, ps, rfl, e114 _ _ hb, e114 _ _ hf, bf, hp2, hps.mono e114, by omega, by omega, fun a' t p HA sA haf hA hpv hpm' hfA' hpA => ?_⟩
          have eA : Ex H5 HA := ExS.ex (eW.trans e114) sA fun m hm => by rw [List.mem_singleton.mp hm]; exact hfn
          have hmA := sA pms _ (by simp only [List.mem_singleton]; exact mf) (e114 _ _ hm)
          have a1 : a' ≠ pf := fun z => by rw [z, e114 _ _ hf] at haf; cases haf
          have hd : (((a - c).natAbs : Nat) : Int) = a - c := by omega
          rw [hd] at hpm'
          have hpl : pre.length ≤ 1000 := by
            have := hperm.length_eq
            rw [List.length_append, List.length_append] at this
            omega
          refine s_asgL (xs := (srt (pre ++ [a - c])).map V.int) (el_sortIN (el_is (el_catN (xs := pre.map V.int) (ys := [.int (a - c)]) (el_is (el_sl (ev_var rfl) eo_none (eo_some (ev_un ev_c ru_neg)) (sq_of hmA)) (by rw [List.map_append]; exact cut_back2)) (el_lst (ea_cons (ev_op (evA rfl hmA) (evC rfl hmA) rv_I0) ea_nil) (by show 1 ≤ 100000; decide)) (by rw [List.length_map]; show _ + 1 ≤ 100000; omega)) (by rw [List.map_append]; rfl))) fun pm2 H15 hpm2 e15 h15 => ?_
          refine ⟨m - 1, by rw [List.length_append] at hml; have : ([c, a] : List Int).length = 2 := rfl; omega, a', pm2, _, wp b p.1 p.2, srt (pre ++ [a - c]), ws ++ [.ref t], ps ++ [p], rfl, eA.trans e15, e15 _ _ hA, h15, e15 _ _ hfA', hpA.mono e15, a1, (fun z => by rw [z, hfA'] at hpm2; cases hpm2), ?_, srt_sorted _, .inl (J_step hJm hca), ?_, ?_, ?_, ?_, fun qs v hq => ?_⟩
          · refine hpm'.trans ?_
            refine List.Perm.trans ?_ ((srt_perm (pre ++ [a - c])).symm.append_right Lx)
            rw [show pre ++ [a - c] ++ Lx = pre ++ (a - c) :: Lx by simp]
            exact List.perm_middle.symm
          · rw [srt_len, List.length_append]
            rw [List.length_append] at hml
            have : ([c, a] : List Int).length = 2 := rfl
            have : ([a - c] : List Int).length = 1 := rfl
            omega
          · have := wp_len hpv.1 hpv.2.1 hpv.2.2
            rw [List.length_append, List.length_singleton]
            omega
          · have := wp_len hpv.1 hpv.2.1 hpv.2.2
            omega
          · rw [wp_sum hpv.1 hpv.2.1 hpv.2.2, hsum]
          · rw [List.append_assoc]
            refine hL (p :: qs) v ?_
            rw [leftB_ok hpv]
            exact hq
        · -- one small number at the most
          have ms1 : ms.length ≤ 1 := by
            have := of_decide_eq_false hb3
            omega
          have hb13 := e13 _ _ hb
          have hm13 := e13 _ _ hm
          have hf13 := e13 _ _ hf
          have bll : (b.map V.int).length = b.length := List.length_map _
          have hsm : b.sum = ms.sum + Lx.sum := by rw [perm_sum hperm, List.sum_append]
          have hlen := hperm.length_eq
          rw [List.length_append] at hlen
          have fin : ∀ (b' : List Int) (ps' : List (Int × Int)), b' = [x] → (∀ qs v, leftB b' qs = some v → leftB (asc n) (ps' ++ qs) = some v) → leftB (asc n) ps' = some x := fun b' ps' h g => by
            have := g [] x (by rw [h]; rfl)
            rw [List.append_nil] at this
            exact this
          refine q_when (b := decide (0 < x) && decide (1 < ((b.map V.int).length : Int))) (et_and (et_test (ev_op (ev_var rfl) ev_c rv_I0)) fun _ => et_test (ev_op (ev_len (ev_var rfl) (sq_of hb13)) ev_c rv_I0)) (fun hb4 H14 e14 => ?_) (fun hb4 H14 e14 => ?_)
          · rw [Bool.and_eq_true] at hb4
            have hx0 := of_decide_eq_true hb4.1
            have hbl2 := of_decide_eq_true hb4.2
            rw [if_pos hx0] at hLx
            rw [hLx] at hperm hsm hlen
            have l1 : ([x] : List Int).length = 1 := rfl
            obtain ⟨s0, rfl⟩ : ∃ s0, ms = [s0] := List.length_eq_one_iff.mp (by omega)
            have hs0 := J_one hJm
            have hsx : s0 = 0 := by
              simp only [List.sum_cons, List.sum_nil] at hsm
              omega
            refine s_asgSE (eax_E (ea_cons (ev_var rfl) (ea_cons (x := .int s0) (ev_op (ev_var rfl) ev_c (rv_ixL (sq_of (e14 _ _ hm13)) (at_int_i (ns := [s0]) (i := 0) (by decide) (show (0 : Int) < 1 by decide)))) (ea_cons (ev_var rfl) (ea_cons (ev_var rfl) ea_nil))))) fun vs H15 e15 ⟨hvs, _⟩ => ?_
            subst hvs
            have e1315 := (e13.trans e14).trans e15
            refine ⟨pb, pf, b, [], s0, x, ws, ps, rfl, e1315 _ _ hb, e1315 _ _ hf, bf, hperm, hps.mono e1315, by omega, by omega, fun a' t p HA sA haf hA hpv hpm' hfA' hpA => ?_⟩
            have eA : Ex H5 HA := ExS.ex (eW.trans e1315) sA fun m hm => by rw [List.mem_singleton.mp hm]; exact hfn
            have hw : wp b p.1 p.2 = [x] := by
              rw [List.perm_singleton.mp hpm', hsx, show (((0 - x).natAbs : Nat) : Int) = x by omega]
            refine s_ret (ev_var rfl) fun HB eB => q _ HB ((e05.trans eA).trans eB) ⟨pf, _, ps ++ [p], rfl, fresh_back e05 hfn, eB _ _ hfA', hpA.mono eB, fin _ _ hw fun qs v hq => ?_⟩
            rw [List.append_assoc]
            refine hL (p :: qs) v ?_
            rw [leftB_ok hpv]
            exact hq
          · have hbx : b = [x] := by
              by_cases hx0 : 0 < x
              · rw [if_pos hx0] at hLx
                rw [hLx] at hperm hlen
                have l1 : ([x] : List Int).length = 1 := rfl
                have nb : ¬ (1 < ((b.map V.int).length : Int)) := fun z => by
                  rw [decide_eq_true hx0, decide_eq_true z] at hb4
                  cases hb4
                have hm0 : ms = [] := List.length_eq_zero_iff.mp (by omega)
                rw [hm0, List.nil_append] at hperm
                exact List.perm_singleton.mp hperm
              · rw [if_neg hx0] at hLx
                rw [hLx] at hperm hsm hlen
                rw [List.length_nil] at hlen
                obtain ⟨s0, rfl⟩ : ∃ s0, ms = [s0] := List.length_eq_one_iff.mp (by omega)
                have hs0 := J_one hJm
                have hsx : s0 = x := by
                  simp only [List.sum_cons, List.sum_nil] at hsm
                  omega
                rw [List.append_nil, hsx] at hperm
                exact List.perm_singleton.mp hperm
            exact s_ret (ev_var rfl) fun HB eB => q _ HB (((e05.trans eW).trans (e13.trans e14)).trans eB) ⟨pf, _, ps, rfl, fresh_back e05 hfn, (e14.trans eB) _ _ hf13, ((hps.mono e13).mono e14).mono eB, fin _ _ hbx hL⟩
end
end Lw

--@ uses: math_ways
namespace Lw
open PySem PySem.Spec PyProof.Rows L2 Evl
/-! ### a dict of counts -/
theorem keys_putK {κ : Type} [DecidableEq κ] (kvs : List (κ × V)) (k : κ) (v : V) : (putK kvs k v).map (·.1) = if k ∈ kvs.map (·.1) then kvs.map (·.1) else kvs.map (·.1) ++ [k] := by
  unfold putK
  have e : (kvs.any fun kv => decide (kv.1 = k)) = true ↔ k ∈ kvs.map (·.1) := by
    rw [List.any_eq_true, List.mem_map]
    exact ⟨fun ⟨x, h1, h2⟩ => ⟨x, h1, of_decide_eq_true h2⟩, fun ⟨x, h1, h2⟩ => ⟨x, h1, decide_eq_true h2⟩⟩
  by_cases h : k ∈ kvs.map (·.1)
  · rw [if_pos h, if_pos (e.mpr h), List.map_map]
    refine List.map_congr_left fun x _ => ?_
    show (if x.1 = k then (x.1, v) else x).1 = x.1
    split <;> rfl
  · rw [if_neg h, if_neg fun z => h (e.mp z), List.map_append]
    rfl
theorem nodup_putK {κ : Type} [DecidableEq κ] {kvs : List (κ × V)} {k : κ} {v : V} (h : (kvs.map (·.1)).Nodup) : ((putK kvs k v).map (·.1)).Nodup := by
  rw [keys_putK]
  split
  · exact h
  · rename_i hk
    exact nd_snoc h hk
structure Cnt (kvs : List (L2.Key × V)) (f : Int → Nat) : Prop where
  nd : (kvs.map (·.1)).Nodup
  key : ∀ k ∈ kvs.map (·.1), ∃ x : Int, k = Sum.inl x
  val : ∀ x : Int, valV kvs (Sum.inl x : L2.Key) = if f x = 0 then none else some (.int (f x))
theorem Cnt.nil : Cnt [] (fun _ => 0) := ⟨List.nodup_nil, (fun k h => by cases h), (fun x => by rw [if_pos rfl]; rfl)⟩
theorem Cnt.congr {kvs : List (L2.Key × V)} {f g : Int → Nat} (h : Cnt kvs f) (e : ∀ x, f x = g x) : Cnt kvs g := ⟨h.nd, h.key, fun x => by rw [h.val, e]⟩
theorem Cnt.put {kvs : List (L2.Key × V)} {f : Int → Nat} (h : Cnt kvs f) {x : Int} {c : Nat} (hc : 0 < c) : Cnt (putK kvs (Sum.inl x) (.int c)) fun y => if y = x then c else f y := by
  refine ⟨nodup_putK h.nd, fun k hk => ?_, fun y => ?_⟩
  · rw [keys_putK] at hk
    split at hk
    · exact h.key k hk
    · rcases List.mem_append.mp hk with hk | hk
      · exact h.key k hk
      · exact ⟨x, List.mem_singleton.mp hk⟩
  · rw [valV_put]
    by_cases e : y = x
    · subst e
      rw [if_pos rfl, if_pos rfl, if_neg (by omega)]
    · rw [if_neg (fun z => e (Sum.inl.inj z)), h.val, if_neg e]
theorem inl_keys : ∀ {ks : List L2.Key}, (∀ k ∈ ks, ∃ x : Int, k = Sum.inl x) → ∃ xs : List Int, ks = xs.map Sum.inl
  | [], _ => ⟨[], rfl⟩
  | k :: ks, h => by
    obtain ⟨x, rfl⟩ := h k List.mem_cons_self
    obtain ⟨xs, rfl⟩ := inl_keys fun j hj => h j (List.mem_cons_of_mem _ hj)
    exact ⟨x :: xs, rfl⟩
theorem nodup_of_map {α β : Type} {f : α → β} : ∀ {l : List α}, (l.map f).Nodup → l.Nodup
  | [], _ => List.nodup_nil
  | a :: l, h => by
    rw [List.map_cons, List.nodup_cons] at h
    exact List.nodup_cons.mpr ⟨fun hm => h.1 (List.mem_map.mpr ⟨a, hm, rfl⟩), nodup_of_map h.2⟩
theorem mem_inl {x : Int} {xs : List Int} : (Sum.inl x : L2.Key) ∈ xs.map Sum.inl ↔ x ∈ xs := by
  rw [List.mem_map]
  exact ⟨fun ⟨y, h1, h2⟩ => (Sum.inl.inj h2) ▸ h1, fun h => ⟨x, h, rfl⟩⟩
theorem Cnt.keys {kvs : List (L2.Key × V)} {f : Int → Nat} (h : Cnt kvs f) : ∃ xs : List Int, kvs.map (·.1) = xs.map Sum.inl ∧ xs.Nodup ∧ ∀ x, x ∈ xs ↔ f x ≠ 0 := by
  obtain ⟨xs, hx⟩ := inl_keys h.key
  refine ⟨xs, hx, nodup_of_map (hx ▸ h.nd), fun x => ?_⟩
  rw [← mem_inl, ← hx]
  have hv := h.val x
  constructor
  · intro hm hf
    rw [if_pos hf] at hv
    exact valV_not hv hm
  · intro hf
    rw [if_neg hf] at hv
    exact valV_in hv
theorem nodup_len {α : Type} [DecidableEq α] : ∀ (l D : List α), l.Nodup → (∀ x ∈ l, x ∈ D) → l.length ≤ D.length
  | [], _, _, _ => Nat.zero_le _
  | x :: l, D, hn, hs => by
    obtain ⟨h1, h2⟩ := List.nodup_cons.mp hn
    have hx : x ∈ D := hs x List.mem_cons_self
    have ih := nodup_len l (D.erase x) h2 fun y hy => (List.mem_erase_of_ne (show y ≠ x from fun e => h1 (by rw [← e]; exact hy))).2 (hs y (List.mem_cons_of_mem _ hy))
    have e := List.length_erase_of_mem hx
    have hp : 0 < D.length := List.length_pos_of_mem hx
    rw [List.length_cons]
    omega
theorem Cnt.len {kvs : List (L2.Key × V)} {f : Int → Nat} (h : Cnt kvs f) (hf : ∀ x, f x ≠ 0 → 0 ≤ x ∧ x ≤ 1000000) : kvs.length ≤ 1000001 := by
  obtain ⟨xs, hx, hn, hm⟩ := h.keys
  have e : kvs.length = xs.length := by
    rw [← List.length_map (f := (·.1)), hx, List.length_map]
  have z := nodup_len xs ((List.range 1000001).map Int.ofNat) hn fun x hxs => by
    obtain ⟨h0, h1⟩ := hf x ((hm x).mp hxs)
    exact List.mem_map.mpr ⟨x.toNat, List.mem_range.mpr (by omega), by show ((x.toNat : Nat) : Int) = x; omega⟩
  rw [List.length_map, List.length_range] at z
  omega
/-- found.get(x, 0) -/
theorem Cnt.get {kvs : List (L2.Key × V)} {f : Int → Nat} (h : Cnt kvs f) (x : Int) : (valV kvs (Sum.inl x : L2.Key)).getD (.int 0) = .int (f x) := by
  rw [h.val]
  by_cases e : f x = 0
  · rw [if_pos e, e]
    rfl
  · rw [if_neg e]
    rfl
/-- the wipings' counts, the first i of them -/
def part (ns : List Int) (i : Nat) (x : Int) : Nat := (((pairsOf ns.length).take i).map fun p => wys (wp ns p.1 p.2) x).sum
theorem part_succ {ns : List Int} {i : Nat} {p : Int × Int} (h : (pairsOf ns.length)[i]? = some p) (x : Int) : part ns (i + 1) x = part ns i x + wys (wp ns p.1 p.2) x := by
  unfold part
  rw [List.take_add_one, h, List.map_append, List.sum_append]
  simp
theorem part_all {ns : List Int} (h : 2 ≤ ns.length) (x : Int) : part ns (pairsOf ns.length).length x = wys ns x := by
  unfold part
  rw [List.take_length, wys_step h]
theorem part_range {ns : List Int} {m : Int} (hb : ∀ y ∈ ns, 0 ≤ y ∧ y ≤ m) {i : Nat} {x : Int} (h : part ns i x ≠ 0) : 0 ≤ x ∧ x ≤ m := by
  obtain ⟨y, hy, h2⟩ := sum_ne h
  obtain ⟨p, hp, rfl⟩ := List.mem_map.mp hy
  obtain ⟨h0, h1, h3⟩ := pairs_mem (List.mem_of_mem_take hp)
  exact ways_range (wp_bound h0 h1 h3 hb) h2
/-- how many boards are put down below a board of so many numbers, at most -/
def gK : Nat → Nat
  | 0 => 0
  | 1 => 0
  | n + 2 => 1 + (pairsOf (n + 2)).length * gK (n + 1)
theorem gK_six : ∀ n, n ≤ 6 → gK n ≤ 3766 := by
  intro n h
  rcases n with _ | _ | _ | _ | _ | _ | _ | n
  all_goals first | decide | (exfalso; omega)
theorem Cnt.has {es : List (L2.Key × V)} {f : Int → Nat} (h : Cnt es f) (x : Int) : (valV es (Sum.inl x : L2.Key)).isSome = decide (f x ≠ 0) := by
  rw [h.val]
  by_cases e : f x = 0
  · rw [if_pos e, decide_eq_false (fun z => z e)]
    rfl
  · rw [if_neg e, decide_eq_true e]
    rfl
/-- a board's counts, with nothing known -/
def NCnt (ns : List Int) : Hp → V → Hp → Prop := fun H1 v H2 => ∃ r es, v = .ref r ∧ H1 r = none ∧ H2 r = some (.dK es) ∧ Cnt es (wys ns)
theorem back_Cnt {ns : List Int} : Back (NCnt ns) := fun H1 H2 v H3 e ⟨r, es, h1, h2, h3⟩ => ⟨r, es, h1, fresh_back e h2, h3⟩
theorem ncnt_has {ns : List Int} {x : Int} {H1 H2 : Hp} {v : V} (h : NCnt ns H1 v H2) : ∃ r es, v = .ref r ∧ H2 r = some (.dK es) ∧ (valV es (Sum.inl x : L2.Key)).isSome = decide (wys ns x ≠ 0) := by
  obtain ⟨r, es, h1, _, h2, hC⟩ := h
  exact ⟨r, es, h1, h2, hC.has x⟩
theorem ncnt_not {ns : List Int} {x : Int} {H1 H2 : Hp} {v : V} (h : NCnt ns H1 v H2) : ∃ r es, v = .ref r ∧ H2 r = some (.dK es) ∧ (!(valV es (Sum.inl x : L2.Key)).isSome) = decide (wys ns x = 0) := by
  obtain ⟨r, es, h1, h2, h3⟩ := ncnt_has (x := x) h
  refine ⟨r, es, h1, h2, ?_⟩
  rw [h3]
  by_cases z : wys ns x = 0
  · rw [decide_eq_true z, decide_eq_false (fun y => y z)]
    rfl
  · rw [decide_eq_false z, decide_eq_true z]
    rfl
end Lw

--@ uses: math_cnt
namespace Lw
/-- rising, each once -/
theorem srt_lt {ns : List Int} (h : ns.Nodup) : (srt ns).Pairwise (· < ·) := by
  have h1 := srt_sorted ns
  have h2 : (srt ns).Nodup := (srt_perm ns).nodup_iff.mpr h
  exact (h1.and h2).imp fun {a b} h => by
    have := h.1
    have := h.2
    omega
theorem lt_one {ns ms : List Int} (h1 : ns.Pairwise (· < ·)) (h2 : ms.Pairwise (· < ·)) (h : ∀ x, x ∈ ns ↔ x ∈ ms) : ns = ms := by
  have n1 : ns.Nodup := h1.imp fun {a b} h => by omega
  have n2 : ms.Nodup := h2.imp fun {a b} h => by omega
  have p : ns.Perm ms := (List.perm_ext_iff_of_nodup n1 n2).mpr h
  exact sorted_one (r := (· < ·)) (fun a b x y => by omega) p h1 h2
/-- all that can be left -/
structure IsLasts (ns ls : List Int) : Prop where
  up : ls.Pairwise (· < ·)
  mem : ∀ x, x ∈ ls ↔ wys ns x ≠ 0
theorem IsLasts.one {ns ls ms : List Int} (h : IsLasts ns ls) (g : IsLasts ns ms) : ls = ms := lt_one h.up g.up fun x => by rw [h.mem, g.mem]
theorem IsLasts.perm {ns ms ls : List Int} (h : IsLasts ns ls) (p : ns.Perm ms) : IsLasts ms ls := ⟨h.up, fun x => by rw [h.mem, wys_perm p]⟩
/-- what all wipings leave -/
def outs : Nat → List Int → List Int
  | 0, b => [b.headD 0]
  | n + 1, b => (pairsOf b.length).flatMap fun p => outs n (wp b p.1 p.2)
def cW : Nat → Nat
  | 0 => 1
  | n + 1 => (pairsOf (n + 2)).length * cW n
theorem sum_const {α : Type} (c : Nat) : ∀ l : List α, (l.map fun _ => c).sum = l.length * c
  | [] => by simp
  | a :: l => by
    rw [List.map_cons, List.sum_cons, sum_const c l, List.length_cons, Nat.succ_mul]
    omega
theorem outs_len : ∀ {n : Nat} {b : List Int}, b.length = n + 1 → (outs n b).length = cW n
  | 0, b, _ => rfl
  | n + 1, b, h => by
    show ((pairsOf b.length).flatMap fun p => outs n (wp b p.1 p.2)).length = (pairsOf (n + 2)).length * cW n
    rw [List.length_flatMap, h]
    have e : (pairsOf (n + 1 + 1)).map (fun p => (outs n (wp b p.1 p.2)).length) = (pairsOf (n + 1 + 1)).map fun _ => cW n := List.map_congr_left fun p hp => by
      obtain ⟨h0, h1, h2⟩ := pairs_mem hp
      have := wp_len (ns := b) h0 h1 (by omega)
      exact outs_len (by omega)
    rw [e, sum_const]
theorem outs_mem : ∀ {n : Nat} {b : List Int} {x : Int}, ways n b x ≠ 0 → x ∈ outs n b
  | 0, b, x, h => by
    by_cases e : b = [x]
    · rw [e]; exact List.mem_singleton.mpr rfl
    · exact absurd (if_neg e) h
  | n + 1, b, x, h => by
    obtain ⟨p, hp, h2⟩ := ways_step.mp h
    exact List.mem_flatMap.mpr ⟨p, hp, outs_mem h2⟩
theorem lasts_few {ns ls : List Int} (h : IsLasts ns ls) (h1 : 1 ≤ ns.length) (h6 : ns.length ≤ 6) : ls.length ≤ 2700 := by
  have z := nodup_len ls (outs (ns.length - 1) ns) (h.up.imp fun {a b} h => by omega) fun x hx => outs_mem ((h.mem x).mp hx)
  rw [outs_len (by omega)] at z
  obtain ⟨k, hk, h5⟩ : ∃ k, ns.length - 1 = k ∧ k ≤ 5 := ⟨_, rfl, by omega⟩
  rw [hk] at z
  have : cW k ≤ 2700 := by
    rcases k with _ | _ | _ | _ | _ | _ | k
    all_goals first | decide | (exfalso; omega)
  omega
def NLasts (ns : List Int) : Hp → V → Hp → Prop := fun H1 v H2 => ∃ p ls, v = .ref p ∧ H1 p = none ∧ H2 p = some (.lst (ls.map V.int)) ∧ IsLasts ns ls
theorem back_Lasts {ns : List Int} : Back (NLasts ns) := fun H1 H2 v H3 e ⟨p, ls, h1, h2, h3⟩ => ⟨p, ls, h1, fresh_back e h2, h3⟩
section
variable {P : Program} {w : World} {K : PySem.W.Frag} {mg : Str → Option Value} {base : Heap}
theorem keys_V {es : List (L2.Key × V)} {ks : List Int} (h : es.map (·.1) = ks.map Sum.inl) : es.map (fun kv => kV kv.1) = ks.map V.int := by
  have : es.map (fun kv => kV kv.1) = (es.map (·.1)).map kV := by rw [List.map_map]; rfl
  rw [this, h, List.map_map]
  rfl
def SCnt (ns : List Int) : Hp → V → Hp → Prop := fun _ v H2 => ∃ r es, v = .ref r ∧ H2 r = some (.dK es) ∧ Cnt es (wys ns)
theorem ex_s {te : TE} {σ : L2.St} {H : Hp} {ns : List Int} (h : EvX te σ H (NCnt ns)) : EvX te σ H (SCnt ns) := fun H1 e Q q => h H1 e Q fun v H2 e2 ⟨r, es, h1, _, h2, h3⟩ => q v H2 e2 ⟨r, es, h1, h2, h3⟩
theorem ex_sv {te : TE} {σ : L2.St} {H : Hp} {ns : List Int} {r : Addr} {es : List (L2.Key × V)} (h : Ev te σ H (.ref r)) (hr : H r = some (.dK es)) (hC : Cnt es (wys ns)) : EvX te σ H (SCnt ns) := fun H1 e Q q => h H1 e Q fun H2 e2 => q _ H2 e2 ⟨r, es, rfl, (e.trans e2) _ _ hr, hC⟩
theorem el_lasts {te : TE} {σ : L2.St} {H : Hp} {ns ls : List Int} (h : EvX te σ H (NLasts ns)) (g : IsLasts ns ls) : EvL te σ H (ls.map V.int) := fun H1 e Q q => h H1 e Q fun v H2 e2 ⟨p, ms, ev, h1, h2, h3⟩ => by
  subst ev
  rw [h3.one g] at h2
  exact q p H2 h1 e2 h2
theorem isLasts_by {ns ls : List Int} (m : Nat) (hb : ∀ y ∈ ns, 0 ≤ y ∧ y ≤ (m : Int)) (hu : ls.Pairwise (· < ·)) (hl : ∀ x ∈ ls, 0 ≤ x ∧ x ≤ (m : Int)) (h : ∀ k ∈ List.range (m + 1), ((k : Int) ∈ ls ↔ wys ns (k : Int) ≠ 0)) : IsLasts ns ls := by
  have hk : ∀ x : Int, 0 ≤ x ∧ x ≤ (m : Int) → (x ∈ ls ↔ wys ns x ≠ 0) := fun x hx => by
    have := h x.toNat (List.mem_range.mpr (by omega))
    rw [show ((x.toNat : Nat) : Int) = x by omega] at this
    exact this
  exact ⟨hu, fun x => ⟨fun hx => (hk x (hl x hx)).mp hx, fun hx => (hk x (ways_range hb hx)).mpr hx⟩⟩
theorem isLasts_some {ns : List Int} (hB : Board ns) : ∃ ls, IsLasts ns ls ∧ 0 < ls.length ∧ ∀ x ∈ ls, 0 ≤ x ∧ x ≤ maxL ns ∧ x % 2 = ns.sum % 2 := by
  have hb : ∀ y ∈ ns, 0 ≤ y ∧ y ≤ maxL ns := fun y hy => ⟨(hB.num y hy).1, (maxL_is (by have := hB.one; omega)).2 y hy⟩
  have hm : 0 ≤ maxL ns := by
    have := (hb _ (maxL_is (ns := ns) (by have := hB.one; omega)).1).1
    omega
  have hI : IsLasts ns (((List.range ((maxL ns).toNat + 1)).map Int.ofNat).filter fun x => decide (wys ns x ≠ 0)) := by
    refine ⟨List.Pairwise.filter _ (List.pairwise_map.mpr (List.pairwise_lt_range.imp fun {a b} h => by show (a : Int) < (b : Int); omega)), fun x => ?_⟩
    rw [List.mem_filter, List.mem_map]
    constructor
    · exact fun h => of_decide_eq_true h.2
    · intro h
      have hr := ways_range hb h
      exact ⟨⟨x.toNat, List.mem_range.mpr (by omega), by show ((x.toNat : Nat) : Int) = x; omega⟩, decide_eq_true h⟩
  obtain ⟨x, hx⟩ := ways_some (n := ns.length - 1) (b := ns) (by have := hB.one; omega)
  refine ⟨_, hI, List.length_pos_of_mem ((hI.mem x).mpr hx), fun y hy => ?_⟩
  have hy' := (hI.mem y).mp hy
  have hr := ways_range hb hy'
  exact ⟨hr.1, hr.2, ways_odd hy'⟩
theorem ex_sortKeys {te : TE} {σ : L2.St} {H : Hp} {ns : List Int} (h : EvX te σ H (SCnt ns)) : EvX (tCB (rSortedI K) (tCons (tCB rListD (tCons te tNil)) tNil)) σ H (NLasts ns) := fun H1 e Q q =>
  h H1 e _ fun v H2 e2 ⟨r, es, ev, hr, hC⟩ => by
    subst ev
    obtain ⟨ks, hks, hkn, hkm⟩ := hC.keys
    refine ⟨r, es, rfl, hr, fun l hl => ⟨l, ks, rfl, sq_of (by rw [upd_same, keys_V hks]), fun ms p h1 h2 hp => ?_⟩⟩
    rw [srt_one h1 h2]
    have e3 : Ex H2 (upd H2 l (.lst (es.map fun kv => kV kv.1))) := Ex.new hl
    exact q _ _ ((e2.trans e3).trans (Ex.new hp)) ⟨p, _, rfl, fresh_back (e2.trans e3) hp, upd_same, srt_lt hkn, fun x => by rw [(srt_perm ks).mem_iff, hkm]⟩
end
end Lw

--@ uses: row_led math_lasts
namespace Lw
section
variable {K : PySem.W.Frag} {σ : L2.St} {H : Hp} {tr : TA}
/-- what the first few can leave: every second number between the bounds -/
def twos (lo hi : Int) : List Int := (List.range ((hi - lo) / 2 + 1).toNat).map fun m : Nat => lo + (m : Int) * 2
theorem few_lasts : ∀ n ∈ [1, 2, 3, 4, 5, 6], IsLasts (asc n) (twos (oddOf (n : Int)) (hiOf (n : Int))) := by
  intro n hn
  have hu : ∀ n ∈ [1, 2, 3, 4, 5, 6], (twos (oddOf ((n : Nat) : Int)) (hiOf (n : Int))).Pairwise (· < ·) := by decide +kernel
  have hb : ∀ n ∈ [1, 2, 3, 4, 5, 6], ∀ y ∈ asc n, 0 ≤ y ∧ y ≤ ((6 : Nat) : Int) := by decide +kernel
  have hl : ∀ n ∈ [1, 2, 3, 4, 5, 6], ∀ y ∈ twos (oddOf ((n : Nat) : Int)) (hiOf (n : Int)), 0 ≤ y ∧ y ≤ ((6 : Nat) : Int) := by decide +kernel
  have hk : ∀ n ∈ [1, 2, 3, 4, 5, 6], ∀ k ∈ List.range (6 + 1), ((k : Int) ∈ twos (oddOf ((n : Nat) : Int)) (hiOf (n : Int)) ↔ wys (asc n) (k : Int) ≠ 0) := by decide +kernel
  exact isLasts_by 6 (hb n hn) (hu n hn) (hl n hn) (hk n hn)
/-- list(range(lo, hi + 1, 2)) -/
theorem el_rg3 {lo hi : Int} (h : EvA tr σ H [.int lo, .int (hi + 1), .int 2]) (h0 : 0 ≤ lo) (h1 : lo ≤ hi) (h2 : hi ≤ 1000) : EvL (tLstRg3 tr) σ H ((twos lo hi).map V.int) := fun H1 e Q q =>
  h H1 e _ fun H2 e2 => by
    refine ⟨lo, hi + 1, 2, ((hi - lo) / 2 + 1).toNat, rfl, ⟨by decide, by decide, ?_, ?_, ?_⟩, fun p hp => ?_⟩
    · unfold Builtin.Range.small Builtin.Range.rangeSize
      simp only [Builtin.Range.rangeFitsLong, Bool.and_eq_true, Bool.or_eq_true, decide_eq_true_eq, beq_iff_eq, show (2 : Int) > 0 by decide, if_true]
      split <;> omega
    · unfold Builtin.Range.rangeSize
      rw [if_pos (by decide), if_pos (by omega)]
      omega
    · have : (2 : Nat) ^ 24 = 16777216 := by decide
      omega
    · refine q p _ (fresh_back e2 hp) (e2.trans (Ex.new hp)) ?_
      rw [upd_same]
      unfold twos
      rw [List.map_map]
      rfl
end
end Lw

--@ uses: asked_many bounds_of
namespace Lw
section
variable {P : Program} {w : World} {K : PySem.W.Frag} {mg : Str → Option Value} {base : Heap}
theorem ok_row_bounds {f f1 f2 : Addr} {fd fd1 fd2 : FuncData} (D : Df K mg "row_bounds" s_row_bounds ["many"] f fd) (T : Blt mg)
    (o_asked_many : Ok P w K mg base CX0 2 "asked_many" s_asked_many ["many"] spAskedMany f1 fd1)
    (o_bounds_of : Ok P w K mg base CX0 1 "bounds_of" s_bounds_of ["many"] spBounds f2 fd2) : FnOk P w K mg base CX0 3 f fd ["many"] spBounds := by
  have ND := sc_row_bounds.nd
  refine D.F.ok sc_row_bounds (fun vs H Q E h => ?_) (fun cdv A outer s H vs Q E hr h => ?_)
  · obtain ⟨n, rfl, _⟩ := h
    rfl
  · obtain ⟨n, rfl, h1, h2, q⟩ := h
    refine ⟨_, (pss_cons /- 26 -/ (ps_expr (pe_call o_asked_many.G (hr.mono (by first | decide | omega)) rfl o_asked_many.D.g o_asked_many.D.F.kp o_asked_many.D.b .nil pass0 (pa_cons (pv 0) pa_nil)))
      (pss_one /- 27 -/ (ps_ret (pe_call o_bounds_of.G (hr.mono (by first | decide | omega)) rfl o_bounds_of.D.g o_bounds_of.D.F.kp o_bounds_of.D.b .nil pass0 (pa_cons (pv 0) pa_nil))))), ?_⟩
    refine q_drop (ev_call (ea_cons (ev_var rfl) ea_nil) (sv_askedMany h1)) fun H1 e1 => ?_
    exact s_retX (ex_call back_U (ea_cons (ev_var rfl) ea_nil) (sx_bounds h1 h2)) fun v H2 e2 hv => q v H2 (e1.trans e2) (back_U _ _ _ _ e1 hv)
end
end Lw

--@ uses: math_left
namespace Lw
section
variable {P : Program} {w : World} {K : PySem.W.Frag} {mg : Str → Option Value} {base : Heap}
def spLeft : Sp := fun vs H Q _ => ∃ (a l : Addr) (ns : List Int) (ws : List V) (ps : List (Int × Int)), vs = [.ref a, .ref l] ∧ H a = some (.lst (ns.map V.int)) ∧ H l = some (.lst ws) ∧ Prs H ws ps ∧ ns.length ≤ 1000 ∧ RetV (optV (leftB ns ps)) H Q
theorem prs_at {H : Hp} {ws : List V} {ps : List (Int × Int)} {i : Nat} {v : V} (h : Prs H ws ps) (e : ws[i]? = some v) : ∃ p t, ps[i]? = some p ∧ v = .ref t ∧ H t = some (.tup [.int p.1, .int p.2]) := h.get e
theorem drop_at {α : Type} {l : List α} {i : Nat} {x : α} (h : l[i]? = some x) : l.drop i = x :: l.drop (i + 1) := by
  obtain ⟨hi, rfl⟩ := List.getElem?_eq_some_iff.mp h
  exact List.drop_eq_getElem_cons hi
theorem sv_left {a l : Addr} {ns : List Int} {ws : List V} {ps : List (Int × Int)} {H : Hp} (ha : H a = some (.lst (ns.map V.int))) (hl : H l = some (.lst ws)) (hp : Prs H ws ps) (hn : ns.length ≤ 1000) : SpV spLeft [.ref a, .ref l] H (optV (leftB ns ps)) :=
  fun H1 e Q q E => ⟨a, l, ns, ws, ps, rfl, e _ _ ha, e _ _ hl, hp.mono e, hn, q⟩
end
end Lw

--@ uses: wiped_of
namespace Lw
section
variable {P : Program} {w : World} {K : PySem.W.Frag} {mg : Str → Option Value} {base : Heap}
theorem ok_law_wiped {f : Addr} {fd : FuncData} (D : Df K mg "_law_wiped" s_law_wiped ["_law_board_here", "_law_pair"] f fd) (T : Blt mg) : FnOk P w K mg base CX0 1 f fd ["_law_board_here", "_law_pair"] spWipedOf := by
  have ND := sc_law_wiped.nd
  refine D.F.ok sc_law_wiped (fun vs H Q E h => ?_) (fun cdv A outer s H vs Q E hr h => ?_)
  · obtain ⟨a, t, ns, i, j, rfl, _⟩ := h
    rfl
  · obtain ⟨a, t, ns, i, j, rfl, ha, ht, h0, h1, h2, h3, q⟩ := h
    refine ⟨_, (pss_cons /- 75 -/ (ps_set (i := 2) ND rfl (by first | exact .inl rfl | exact .inr rfl) (pe_lst pa_nil))
      (pss_cons /- 76 -/ (ps_for PassesOwn.never rfl (pi_enum (by rfl) T.enumerate (pa_cons (pv 0) pa_nil)) (kgTup (K := K) (n := 2) rfl rfl (pgs_cons (pg_name (i := 3) ND rfl (by first | exact .inl rfl | exact .inr rfl)) (pgs_cons (pg_name (i := 4) ND rfl (by first | exact .inl rfl | exact .inr rfl)) pgs_nil)))
        (pss_one /- 77 -/ (ps_if (pt_cmpR (kNotIn (K := K) rfl) (pv 3) (pv 1) (by rfl))
          (pss_one /- 78 -/ (ps_expr (pe_bm PySem.F.plainAttrs_list PySem.F.slot_list_append PySem.F.type_list_append mt_append (pv 2) (pa_cons (pv 4) pa_nil))))
          pss_nil)))
      (pss_cons /- 79 -/ (ps_expr (pe_bm PySem.F.plainAttrs_list PySem.F.slot_list_append PySem.F.type_list_append mt_append (pv 2) (pa_cons (pe_callB kAbs (by rfl) T.abs (by decide +kernel) (pa_cons (pe_op op_sub (pe_ix (kIxL (K := K) rfl) (pv 0) (pe_ix (kIxT (K := K) rfl) (pv 1) pe_int (fun _ _ => rfl)) (fun _ _ => rfl)) (pe_ix (kIxL (K := K) rfl) (pv 0) (pe_ix (kIxT (K := K) rfl) (pv 1) pe_int (fun _ _ => rfl)) (fun _ _ => rfl))) pa_nil)) pa_nil)))
      (pss_one /- 80 -/ (ps_ret (pv 2)))))), ?_⟩
    have hl : (ns.map V.int).length = ns.length := List.length_map _
    refine q_asgL (el_lst ea_nil (by decide)) fun p H1 hp e1 h1' => ?_
    refine q_forEn (ea_cons (ev_var rfl) ea_nil) (sq_of (e1 _ _ ha)) (fun m σ' H' => ∃ y3 y4, σ' = [some (.ref a), some (.ref t), some (.ref p), y3, y4] ∧ Ex H H' ∧ H' p = some (.lst ((keepAt i j 0 (ns.take m)).map V.int)))
      (fun H2 e2 => ⟨none, none, rfl, e1.trans e2, e2 _ _ h1'⟩) (fun m σ' H' _ ⟨_, _, _, e, _⟩ => sq_of (e _ _ ha)) (fun m x σ' H' H2 hx ⟨y3, y4, hs, e, hp'⟩ e2 => ?_) (fun σ' H' ⟨y3, y4, hs, e, hp'⟩ => ?_)
    · subst hs
      obtain ⟨n, hn, rfl⟩ := int_at hx
      have hm := (List.getElem?_eq_some_iff.mp hn).1
      have e3 := e.trans e2
      have hk : keepAt i j 0 (ns.take (m + 1)) = keepAt i j 0 (ns.take m) ++ (if (m : Int) = i ∨ (m : Int) = j then [] else [n]) := by
        rw [List.take_add_one, hn]
        show keepAt i j 0 (ns.take m ++ [n]) = _
        rw [keepAt_append, List.length_take, Nat.min_eq_left (by omega), Nat.zero_add]
      refine s_when (b := !decide ((m : Int) = i ∨ (m : Int) = j)) ?_ (fun hb H4 e4 => ?_) (fun hb H4 e4 => ?_)
      · refine et_test (ev_is (ev_op (ev_var rfl) (ev_var rfl) (rv_niT (st_of (e3 _ _ ht)) rfl rfl)) ?_)
        rw [in_pair]
      · refine s_app (l := p) (e4 _ _ (e2 _ _ hp')) (ev_var rfl) (ev_var rfl) ?_ fun H5 e5 => ⟨_, _, rfl, Ex.mut ((e3.trans e4).trans e5) hp, ?_⟩
        · have := keepAt_len_le i j (ns.take m) 0
          rw [List.length_map]
          rw [List.length_take] at this
          omega
        · rw [upd_same, hk, if_neg (nd_t hb), List.map_append]
          rfl
      · refine ⟨_, _, rfl, e3.trans e4, ?_⟩
        rw [hk, if_pos (nd_f hb), List.append_nil]
        exact e4 _ _ (e2 _ _ hp')
    · subst hs
      have ha2 := e _ _ ha
      rw [hl, List.take_length] at hp'
      refine q_app (l := p) hp' (ev_var rfl) (ev_abs (ev_op (ev_op (ev_var rfl) (ev_op (ev_var rfl) ev_c (rv_ixT (st_of (e _ _ ht)) rfl)) (rv_ixL (sq_of ha2) (at_int_i h0 (by omega)))) (ev_op (ev_var rfl) (ev_op (ev_var rfl) ev_c (rv_ixT (st_of (e _ _ ht)) rfl)) (rv_ixL (sq_of ha2) (at_int_i (by omega) h2))) rv_I0)) ?_ fun H3 e3 => ?_
      · have := keepAt_len_le i j ns 0
        rw [List.length_map]
        omega
      · refine s_ret (ev_var rfl) fun H4 e4 => q p H4 hp ((Ex.mut (e.trans e3) hp).trans e4) (e4 _ _ ?_)
        unfold wp
        rw [upd_same, List.map_append]
        rfl
end
end Lw

--@ uses: sp_left law_wiped
namespace Lw
section
variable {P : Program} {w : World} {K : PySem.W.Frag} {mg : Str → Option Value} {base : Heap}
theorem ok_law_left {f f1 : Addr} {fd fd1 : FuncData} (D : Df K mg "_law_left" s_law_left ["_law_board_here", "_law_pairs_here"] f fd) (T : Blt mg)
    (o_law_wiped : Ok P w K mg base CX0 1 "_law_wiped" s_law_wiped ["_law_board_here", "_law_pair"] spWipedOf f1 fd1) : FnOk P w K mg base CX0 2 f fd ["_law_board_here", "_law_pairs_here"] spLeft := by
  have ND := sc_law_left.nd
  refine D.F.ok sc_law_left (fun vs H Q E h => ?_) (fun cdv A outer s H vs Q E hr h => ?_)
  · obtain ⟨a, l, ns, ws, ps, rfl, _⟩ := h
    rfl
  · obtain ⟨a, l, ns, ws, ps, rfl, ha, hl, hp, hn, q⟩ := h
    refine ⟨_, (pss_cons /- 100 -/ (ps_for PassesOwn.never rfl (pi_list (pv 1)) (pg_name (i := 2) ND rfl (by first | exact .inl rfl | exact .inr rfl))
        (pss_cons /- 101 -/ (ps_if (PW.pt (pw_or (pt_not (pt_val (pe_callB (kIsi (K := K) rfl) (by rfl) T.isinstance (by decide +kernel) (pa_cons (pv 2) (pa_cons (pe_bltn (v := .ty "tuple") (by rfl) T.tuple boot_tuple rfl) pa_nil))))) (pw_or (pt_cmpR op_ne (pe_callB (kLen (K := K) rfl) (by rfl) T.len PySem.boot_len (pa_cons (pv 2) pa_nil)) pe_int (nomark _)) (pw_or1 (pt_not (pt_chain3 op_le op_lt op_lt pe_int (pe_ix (kIxT (K := K) rfl) (pv 2) pe_int (fun _ _ => rfl)) (pe_ix (kIxT (K := K) rfl) (pv 2) pe_int (fun _ _ => rfl)) (pe_callB (kLen (K := K) rfl) (by rfl) T.len PySem.boot_len (pa_cons (pv 0) pa_nil))))))))
          (pss_one /- 102 -/ (ps_ret pe_non))
          pss_nil)
        (pss_one /- 103 -/ (ps_set (i := 0) ND rfl (by first | exact .inl rfl | exact .inr rfl) (pe_call o_law_wiped.G (hr.mono (by first | decide | omega)) rfl o_law_wiped.D.g o_law_wiped.D.F.kp o_law_wiped.D.b .nil pass0 (pa_cons (pv 0) (pa_cons (pv 2) pa_nil)))))))
      (pss_one /- 104 -/ (ps_ret (pe_ifExp (pt_cmpR op_eq (pe_callB (kLen (K := K) rfl) (by rfl) T.len PySem.boot_len (pa_cons (pv 0) pa_nil)) pe_int (nomark _)) (pe_ix (kIxL (K := K) rfl) (pv 0) pe_int (fun _ _ => rfl)) pe_non)))), ?_⟩
    have hlen := hp.len
    refine q_forLn (ev_var rfl) (sq_of hl) (fun i σ' H' => ∃ y3 ph b, σ' = [some (.ref ph), some (.ref l), y3] ∧ Ex H H' ∧ H' ph = some (.lst (b.map V.int)) ∧ b.length ≤ 1000 ∧ leftB ns ps = leftB b (ps.drop i))
      (fun H2 e2 => ⟨none, a, ns, rfl, e2, e2 _ _ ha, hn, rfl⟩) (fun i σ' H' _ ⟨_, _, _, _, e, _⟩ => sq_of (e _ _ hl)) (fun i x σ' H' hx ⟨y3, ph, b, hs, e, hb, hbl, hL⟩ => ?_) (fun σ' H' ⟨y3, ph, b, hs, e, hb, hbl, hL⟩ => ?_)
    · subst hs
      obtain ⟨pr, t, hpr, rfl, ht⟩ := hp.get hx
      have ht' := e _ _ ht
      rw [drop_at hpr] at hL
      have hll : (b.map V.int).length = b.length := List.length_map _
      refine q_when (b := !true || (!decide (V.int ([.int pr.1, .int pr.2] : List V).length = V.int 2) || !(decide (0 ≤ pr.1) && (decide (pr.1 < pr.2) && decide (pr.2 < ((b.map V.int).length : Int)))))) (et_or (et_not (et_test (ev_isi (ev_var rfl) ev_c (fun H1 e1 => .base (.tup (e1 _ _ ht'))) (by decide +kernel)))) fun _ => et_or (et_test (ev_op (ev_lenT (ev_var rfl) (st_of ht')) ev_c (rv_ne rfl))) fun _ => et_not (et_test ?_)) (fun hb1 H2 e2 => ?_) (fun hb1 H2 e2 => ?_)
      · exact ev_chain3 ev_c (ev_op (ev_var rfl) ev_c (rv_ixT (st_of ht') rfl)) (ev_op (ev_var rfl) ev_c (rv_ixT (st_of ht') rfl)) (ev_len (ev_var rfl) (sq_of hb)) rv_I0 rv_I0 rv_I0
      · refine s_ret ev_c fun H3 e3 => ?_
        have : leftB ns ps = none := by
          rw [hL]
          refine leftB_no fun z => ?_
          rw [hll, decide_eq_true z.1, decide_eq_true z.2.1, decide_eq_true z.2.2] at hb1
          cases hb1
        rw [this] at q
        exact q H3 ((e.trans e2).trans e3)
      · have z : 0 ≤ pr.1 ∧ pr.1 < pr.2 ∧ pr.2 < b.length := by
          have hb2 : (!(decide (0 ≤ pr.1) && (decide (pr.1 < pr.2) && decide (pr.2 < ((b.map V.int).length : Int))))) = false := hb1
          rw [hll] at hb2
          simp only [Bool.not_eq_false', Bool.and_eq_true, decide_eq_true_eq] at hb2
          exact hb2
        refine s_asgL (el_call (ea_cons (ev_var rfl) (ea_cons (ev_var rfl) ea_nil)) (sl_wipedOf (e2 _ _ hb) (e2 _ _ ht') z.1 z.2.1 z.2.2 hbl)) fun p2 H3 hp2 e3 h3 => ?_
        have := wp_len z.1 z.2.1 z.2.2
        exact ⟨_, p2, _, rfl, (e.trans e2).trans e3, h3, by omega, by rw [hL, leftB_ok z]⟩
    · subst hs
      rw [hlen, List.drop_length] at hL
      have hll : (b.map V.int).length = b.length := List.length_map _
      refine s_ret (v := optV (leftB ns ps)) (ev_if (b := decide (V.int (((b.map V.int).length : Nat) : Int) = V.int 1)) (et_test (ev_op (ev_len (ev_var rfl) (sq_of hb)) ev_c (rv_eq rfl))) (fun h => ?_) (fun h => ?_)) fun H2 e2 => q H2 (e.trans e2)
      · have h1 : b.length = 1 := by
          have := V.int.inj (of_decide_eq_true h)
          omega
        rw [hL, show leftB b [] = some (b.getD 0 0) from if_pos h1]
        exact ev_op (ev_var rfl) ev_c (rv_ixL (sq_of hb) (at_int_i (i := 0) (by decide) (by omega)))
      · have h1 : ¬ b.length = 1 := fun z => of_decide_eq_false h (congrArg V.int (by rw [hll, z]; rfl))
        rw [hL, show leftB b [] = none from if_neg h1]
        exact ev_c
end
end Lw

--@ uses: math_cnt
namespace Lw
open PySem PySem.Spec PyProof.Rows L2 Evl
/-! ### boards with counts, as a dict with tuple keys holds them -/
def mD (m : List (List Int × Nat)) : List (List L2.Key × V) := m.map fun e => (kI e.1, V.int (e.2 : Int))
def getM (m : List (List Int × Nat)) (k : List Int) : Nat := ((m.find? fun e => decide (e.1 = k)).map (·.2)).getD 0
def addM (m : List (List Int × Nat)) (k : List Int) (c : Nat) : List (List Int × Nat) := if m.any (fun e => decide (e.1 = k)) = true then m.map (fun e => if e.1 = k then (e.1, getM m k + c) else e) else m ++ [(k, getM m k + c)]
theorem kI_eq {a b : List Int} : kI a = kI b ↔ a = b := ⟨kI_inj, fun h => by rw [h]⟩
theorem valV_mD (k : List Int) : ∀ m : List (List Int × Nat), valV (mD m) (kI k) = (m.find? fun e => decide (e.1 = k)).map fun e => V.int (e.2 : Int)
  | [] => rfl
  | e :: m => by
    show valV ((kI e.1, V.int (e.2 : Int)) :: mD m) (kI k) = _
    by_cases h : e.1 = k
    · rw [valV_pos (by rw [h]), List.find?_cons_of_pos (by simpa using h)]
      rfl
    · rw [valV_neg (fun z => h (kI_inj z)), List.find?_cons_of_neg (by simpa using h), valV_mD k m]
theorem valV_mD_getD (m : List (List Int × Nat)) (k : List Int) : (valV (mD m) (kI k)).getD (.int 0) = .int (getM m k) := by
  rw [valV_mD]
  unfold getM
  cases (m.find? fun e => decide (e.1 = k)) <;> rfl
theorem mD_add (m : List (List Int × Nat)) (k : List Int) (c : Nat) : putK (mD m) (kI k) (.int ((getM m k + c : Nat) : Int)) = mD (addM m k c) := by
  unfold putK addM mD
  have e : ((m.map fun e => (kI e.1, V.int (e.2 : Int))).any fun kv => decide (kv.1 = kI k)) = m.any fun e => decide (e.1 = k) := by
    rw [List.any_map]
    congr 1
    funext x
    exact decide_eq_decide.mpr kI_eq
  rw [e]
  by_cases h : (m.any fun e => decide (e.1 = k)) = true
  · rw [if_pos h, if_pos h, List.map_map, List.map_map]
    refine List.map_congr_left fun x _ => ?_
    show (if kI x.1 = kI k then (kI x.1, V.int ((getM m k + c : Nat) : Int)) else (kI x.1, V.int (x.2 : Int))) = (kI (if x.1 = k then (x.1, getM m k + c) else x).1, V.int ((if x.1 = k then (x.1, getM m k + c) else x).2 : Int))
    by_cases hx : x.1 = k
    · rw [if_pos (by rw [hx]), if_pos hx]
    · rw [if_neg (fun z => hx (kI_inj z)), if_neg hx]
  · rw [if_neg h, if_neg h, List.map_append]
    rfl
def sumM (g : List Int → Nat) (m : List (List Int × Nat)) : Nat := (m.map fun e => e.2 * g e.1).sum
theorem mem_any {m : List (List Int × Nat)} {k : List Int} : (m.any fun e => decide (e.1 = k)) = true ↔ k ∈ m.map (·.1) := by
  rw [List.any_eq_true, List.mem_map]
  exact ⟨fun ⟨x, h1, h2⟩ => ⟨x, h1, of_decide_eq_true h2⟩, fun ⟨x, h1, h2⟩ => ⟨x, h1, decide_eq_true h2⟩⟩
theorem getM_none {m : List (List Int × Nat)} {k : List Int} (h : k ∉ m.map (·.1)) : getM m k = 0 := by
  unfold getM
  have : (m.find? fun e => decide (e.1 = k)) = none := by
    rw [List.find?_eq_none]
    intro x hx hk
    exact h (List.mem_map.mpr ⟨x, hx, of_decide_eq_true hk⟩)
  rw [this]
  rfl
theorem addM_keys (m : List (List Int × Nat)) (k : List Int) (c : Nat) : (addM m k c).map (·.1) = if k ∈ m.map (·.1) then m.map (·.1) else m.map (·.1) ++ [k] := by
  unfold addM
  by_cases h : k ∈ m.map (·.1)
  · rw [if_pos (mem_any.mpr h), if_pos h, List.map_map]
    refine List.map_congr_left fun x _ => ?_
    show (if x.1 = k then (x.1, getM m k + c) else x).1 = x.1
    split <;> rfl
  · rw [if_neg (fun z => h (mem_any.mp z)), if_neg h, List.map_append]
    rfl
theorem addM_len (m : List (List Int × Nat)) (k : List Int) (c : Nat) : (addM m k c).length ≤ m.length + 1 := by
  unfold addM
  split
  · rw [List.length_map]; omega
  · rw [List.length_append]; exact Nat.le_refl _
theorem addM_nd {m : List (List Int × Nat)} {k : List Int} {c : Nat} (h : (m.map (·.1)).Nodup) : ((addM m k c).map (·.1)).Nodup := by
  rw [addM_keys]
  split
  · exact h
  · rename_i hk
    exact nd_snoc h hk
theorem getM_cons {e : List Int × Nat} {m : List (List Int × Nat)} {k : List Int} : getM (e :: m) k = if e.1 = k then e.2 else getM m k := by
  unfold getM
  by_cases h : e.1 = k
  · rw [List.find?_cons_of_pos (by simpa using h), if_pos h]
    rfl
  · rw [List.find?_cons_of_neg (by simpa using h), if_neg h]
theorem sumM_repl (g : List Int → Nat) (k : List Int) (y : Nat) : ∀ {m : List (List Int × Nat)}, (m.map (·.1)).Nodup → k ∈ m.map (·.1) → sumM g (m.map fun e => if e.1 = k then (e.1, y) else e) + getM m k * g k = sumM g m + y * g k
  | [], _, h => by cases h
  | e :: m, hn, h => by
    rw [List.map_cons, List.nodup_cons] at hn
    show ((if e.1 = k then (e.1, y) else e).2 * g (if e.1 = k then (e.1, y) else e).1 + sumM g (m.map fun e => if e.1 = k then (e.1, y) else e)) + getM (e :: m) k * g k = (e.2 * g e.1 + sumM g m) + y * g k
    rw [getM_cons]
    by_cases he : e.1 = k
    · have hk : k ∉ m.map (·.1) := he ▸ hn.1
      have e2 : m.map (fun e => if e.1 = k then (e.1, y) else e) = m := by
        conv => rhs; rw [← List.map_id m]
        refine List.map_congr_left fun x hx => ?_
        rw [if_neg (fun z : x.1 = k => hk (by rw [← z]; exact List.mem_map.mpr ⟨x, hx, rfl⟩))]
        rfl
      rw [e2, if_pos he, if_pos he, he]
      show y * g k + sumM g m + e.2 * g k = e.2 * g k + sumM g m + y * g k
      omega
    · have hm : k ∈ m.map (·.1) := by
        rcases List.mem_cons.mp h with z | z
        · exact absurd z.symm he
        · exact z
      have ih := sumM_repl g k y hn.2 hm
      rw [if_neg he, if_neg he]
      omega
theorem sumM_add (g : List Int → Nat) {m : List (List Int × Nat)} (k : List Int) (c : Nat) (hn : (m.map (·.1)).Nodup) : sumM g (addM m k c) = sumM g m + c * g k := by
  unfold addM
  by_cases h : k ∈ m.map (·.1)
  · rw [if_pos (mem_any.mpr h)]
    have z := sumM_repl g k (getM m k + c) hn h
    rw [Nat.add_mul] at z
    omega
  · rw [if_neg (fun z => h (mem_any.mp z)), getM_none h]
    unfold sumM
    rw [List.map_append, List.sum_append]
    simp
theorem addM_pos {m : List (List Int × Nat)} {k : List Int} {c : Nat} (hc : 0 < c) (h : ∀ e ∈ m, 0 < e.2) : ∀ e ∈ addM m k c, 0 < e.2 := by
  intro e he
  unfold addM at he
  split at he
  · obtain ⟨x, hx, rfl⟩ := List.mem_map.mp he
    split
    · show 0 < getM m k + c
      omega
    · exact h x hx
  · rcases List.mem_append.mp he with he | he
    · exact h e he
    · rw [List.mem_singleton.mp he]
      show 0 < getM m k + c
      omega
theorem addM_all {p : List Int → Prop} {m : List (List Int × Nat)} {k : List Int} {c : Nat} (hk : p k) (h : ∀ e ∈ m, p e.1) : ∀ e ∈ addM m k c, p e.1 := fun e he => by
  have : e.1 ∈ (addM m k c).map (·.1) := List.mem_map.mpr ⟨e, he, rfl⟩
  rw [addM_keys] at this
  have h' : ∀ x ∈ m.map (·.1), p x := fun x hx => by
    obtain ⟨y, hy, rfl⟩ := List.mem_map.mp hx
    exact h y hy
  split at this
  · exact h' _ this
  · rcases List.mem_append.mp this with z | z
    · exact h' _ z
    · rw [List.mem_singleton.mp z]
      exact hk
/-- one line behind another: n numbers left, all counts of b kept -/
structure Line (b : List Int) (n : Nat) (m : List (List Int × Nat)) : Prop where
  nd : (m.map (·.1)).Nodup
  pos : ∀ e ∈ m, 0 < e.2
  len : ∀ e ∈ m, e.1.length = n + 1
  sum : ∀ x, sumM (fun k => ways n k x) m = ways (b.length - 1) b x
  num : ∀ e ∈ m, ∀ y ∈ e.1, 0 ≤ y ∧ y ≤ 1000000
theorem Line.start {b : List Int} (h : 1 ≤ b.length) (hb : ∀ y ∈ b, 0 ≤ y ∧ y ≤ 1000000) : Line b (b.length - 1) [(b, 1)] := by
  refine ⟨by simp, fun e he => ?_, fun e he => ?_, fun x => ?_, fun e he => ?_⟩
  · rw [List.mem_singleton.mp he]; exact Nat.one_pos
  · rw [List.mem_singleton.mp he]; show b.length = b.length - 1 + 1; omega
  · unfold sumM
    simp
  · rw [List.mem_singleton.mp he]; exact hb
/-- the counts that the boards of a line, and the first j wipings of the next, bring on -/
structure More (b : List Int) (n : Nat) (m : List (List Int × Nat)) (m' : List (List Int × Nat)) (i : Nat) (j : Nat) : Prop where
  nd : (m'.map (·.1)).Nodup
  pos : ∀ e ∈ m', 0 < e.2
  len : ∀ e ∈ m', e.1.length = n + 1
  sum : ∀ x, sumM (fun k => ways n k x) m' = sumM (fun k => ways (n + 1) k x) (m.take i) + match m[i]? with
    | none => 0
    | some e => e.2 * (((pairsOf e.1.length).take j).map fun p => ways n (wp e.1 p.1 p.2) x).sum
  num : ∀ e ∈ m', ∀ y ∈ e.1, 0 ≤ y ∧ y ≤ 1000000
  few : m'.length ≤ 15 * i + j
theorem More.start (b : List Int) (n : Nat) (m : List (List Int × Nat)) : More b n m [] 0 0 := by
  refine ⟨List.nodup_nil, (fun e he => by cases he), (fun e he => by cases he), fun x => ?_, (fun e he => by cases he), Nat.le_refl _⟩
  cases m[0]? with
  | none => rfl
  | some e => rfl
theorem More.step {b : List Int} {n : Nat} {m m' : List (List Int × Nat)} {i j : Nat} {e : List Int × Nat} {p : Int × Int} (M : More b n m m' i j) (L : Line b (n + 1) m) (he : m[i]? = some e) (hp : (pairsOf e.1.length)[j]? = some p) :
    More b n m (addM m' (srt (wp e.1 p.1 p.2)) e.2) i (j + 1) := by
  have hem := List.mem_of_getElem? he
  obtain ⟨h0, h1, h2⟩ := pairs_mem (List.mem_of_getElem? hp)
  have hl := wp_len h0 h1 h2
  have le := L.len e hem
  have hs := srt_len (wp e.1 p.1 p.2)
  refine ⟨addM_nd M.nd, addM_pos (L.pos e hem) M.pos, addM_all (p := fun k => k.length = n + 1) (by omega) M.len, fun x => ?_, addM_all (p := fun k => ∀ y ∈ k, 0 ≤ y ∧ y ≤ 1000000) (fun y hy => wp_bound h0 h1 h2 (L.num e hem) y ((srt_perm _).mem_iff.mp hy)) M.num, ?_⟩
  · rw [sumM_add _ _ _ M.nd, M.sum, he]
    show _ + e.2 * _ + e.2 * ways n (srt (wp e.1 p.1 p.2)) x = _ + e.2 * _
    have e1 : ways n (srt (wp e.1 p.1 p.2)) x = ways n (wp e.1 p.1 p.2) x := ways_perm n x _ _ (srt_perm _)
    rw [List.take_add_one, hp, List.map_append, List.sum_append, e1, Nat.mul_add]
    simp
    omega
  · have := addM_len m' (srt (wp e.1 p.1 p.2)) e.2
    have := M.few
    omega
theorem More.turn {b : List Int} {n : Nat} {m m' : List (List Int × Nat)} {i : Nat} {e : List Int × Nat} (M : More b n m m' i (pairsOf e.1.length).length) (L : Line b (n + 1) m) (he : m[i]? = some e) (h15 : (pairsOf e.1.length).length ≤ 15) : More b n m m' (i + 1) 0 := by
  refine ⟨M.nd, M.pos, M.len, fun x => ?_, M.num, by have := M.few; omega⟩
  rw [M.sum, he, List.take_add_one, he]
  have z : (match m[i + 1]? with
    | none => 0
    | some e => e.2 * (((pairsOf e.1.length).take 0).map fun p => ways n (wp e.1 p.1 p.2) x).sum) = 0 := by
    cases m[i + 1]? with
    | none => rfl
    | some e => rfl
  rw [z]
  show _ + e.2 * _ = _
  unfold sumM
  rw [List.take_length, List.map_append, List.sum_append]
  simp
  rfl
theorem More.line {b : List Int} {n : Nat} {m m' : List (List Int × Nat)} (M : More b n m m' m.length 0) (L : Line b (n + 1) m) : Line b n m' := by
  refine ⟨M.nd, M.pos, M.len, fun x => ?_, M.num⟩
  rw [M.sum, List.take_length, List.getElem?_eq_none (Nat.le_refl _), L.sum]
  rfl
/-- at the end -/
theorem Line.last {b : List Int} {m : List (List Int × Nat)} (h1 : 1 ≤ b.length) (L : Line b 0 m) (x : Int) : getM m [x] = wys b x := by
  unfold wys
  rw [← L.sum x]
  have h := L.len
  have hn := L.nd
  clear L
  induction m with
  | nil => rfl
  | cons e m ih =>
    rw [List.map_cons, List.nodup_cons] at hn
    rw [getM_cons]
    have ih := ih (fun e he => h e (List.mem_cons_of_mem _ he)) hn.2
    show _ = e.2 * (if e.1 = [x] then 1 else 0) + sumM (fun k => ways 0 k x) m
    by_cases he : e.1 = [x]
    · have hk : [x] ∉ m.map (·.1) := he ▸ hn.1
      rw [if_pos he, if_pos he, ← ih, getM_none hk]
      omega
    · rw [if_neg he, if_neg he, ih]
      omega
end Lw

--@ uses: math_pairs
namespace Lw
section
variable {P : Program} {w : World} {K : PySem.W.Frag} {mg : Str → Option Value} {base : Heap}
def spLawPairs : Sp := fun vs H Q _ => ∃ n : Nat, vs = [.int n] ∧ n ≤ 6 ∧ RetX (NP (pairsOf n)) H Q
theorem ok_law_pairs {f : Addr} {fd : FuncData} (D : Df K mg "_law_pairs" s_law_pairs ["_law_many"] f fd) (T : Blt mg) : FnOk P w K mg base CX0 1 f fd ["_law_many"] spLawPairs := by
  have ND := sc_law_pairs.nd
  refine D.F.ok sc_law_pairs (fun vs H Q E h => ?_) (fun cdv A outer s H vs Q E hr h => ?_)
  · obtain ⟨n, rfl, _⟩ := h
    rfl
  · obtain ⟨n, rfl, h6, q⟩ := h
    refine ⟨_, (pss_cons /- 82 -/ (ps_set (i := 1) ND rfl (by first | exact .inl rfl | exact .inr rfl) (pe_lst pa_nil))
      (pss_cons /- 83 -/ (ps_for PassesOwn.never rfl (pi_range1 (by rfl) T.range (pa_cons (pv 0) pa_nil)) (pg_name (i := 2) ND rfl (by first | exact .inl rfl | exact .inr rfl))
        (pss_one /- 84 -/ (ps_expr (pe_bm PySem.F.plainAttrs_list PySem.F.slot_list_extend PySem.F.type_list_extend mt_extend (pv 1) (pa_cons (pe_lc (own := [("_law_one", 3)]) (by rfl) ND (pi_range1 (by rfl) T.range (pa_cons (pv 2) pa_nil)) (blkOk_by (own := [("_law_one", 3)]) (N := ["_law_many", "_law_found", "_law_other", "_law_one"]) (sc := defScope s_law_pairs) (by decide +kernel)) (fun _ _ _ _ _ => (pg_name (i := 3) ND rfl (.inl rfl))) (fun _ _ _ _ _ => pts_nil) (fun _ _ _ _ _ => (pe_tup (pa_cons (pv 3) (pa_cons (pv 2) pa_nil))))) pa_nil)))))
      (pss_one /- 85 -/ (ps_ret (pe_callB (kSortP (K := K) rfl) (by rfl) T.sorted (by decide +kernel) (pa_cons (pv 1) pa_nil)))))), ?_⟩
    refine q_asgL (el_lst ea_nil (by decide)) fun p H1 hp e1 h1' => ?_
    have raw : ∀ j, pairsRaw (j + 1) = pairsRaw j ++ (List.range j).map fun (i : Nat) => ((i : Int), (j : Int)) := fun j => by
      unfold pairsRaw
      rw [List.range_succ, List.flatMap_append]
      simp
    have rawl : ∀ j, j ≤ 6 → (pairsRaw j).length ≤ 15 := fun j hj => by
      rcases j with _ | _ | _ | _ | _ | _ | _ | j
      all_goals first | decide | (exfalso; omega)
    refine q_forR1 (n := (n : Int)) (ea_cons (ev_var rfl) ea_nil) (by omega) (fun m σ' H' => ∃ y2 y3, σ' = [some (.int n), some (.ref p), y2, y3] ∧ Ex H H' ∧ ∃ vs, H' p = some (.lst vs) ∧ Prs H' vs (pairsRaw m))
      (fun H2 e2 => ⟨none, none, rfl, e1.trans e2, [], e2 _ _ h1', .nil⟩) (fun m σ' H' hm ⟨y2, y3, hs, e, vs, hv, hr⟩ => ?_) (fun σ' H' ⟨y2, y3, hs, e, vs, hv, hr⟩ => ?_)
    · subst hs
      have hl := rawl m (by omega)
      refine s_extP (l := p) (qs := (List.range m).map fun (i : Nat) => ((i : Int), (m : Int))) hv hr (ev_var rfl) ?_ (by rw [List.length_map, List.length_range]; omega) fun H3 ws e3 hw => ⟨_, _, rfl, Ex.mut (e.trans e3) hp, ws, upd_same, ?_⟩
      · have e0 : (List.range m).map (fun (i : Nat) => ((i : Int), (m : Int))) = ((List.range (m : Int).toNat).filter fun _ => true).map (fun (i : Nat) => ((i : Int), (m : Int))) := by
          rw [List.filter_eq_self.mpr (fun _ _ => rfl), Int.toNat_natCast]
        rw [e0]
        refine ep_lcP (fun _ => true) _ (ei_r1 (m := (m : Int)) (ea_cons (ev_var rfl) ea_nil) (by omega)) (by omega) (fun i x H2 H3 e2 hi y => ?_) gm_name
        obtain ⟨rfl, rfl⟩ := y
        exact ⟨rfl, Ex.refl _, et_yes, fun _ => eu_tup (ea_cons (ev_var rfl) (ea_cons (ev_var rfl) ea_nil)) (by show 2 ≤ 100000; decide)⟩
      · rw [raw]
        exact hw
    · subst hs
      rw [Int.toNat_natCast] at hr
      obtain ⟨z1, z2⟩ := pairs_six n h6
      refine s_retX (ex_sortP (ev_var rfl) hv hr z1 z2) fun v H3 e3 hv3 => q v H3 (e.trans e3) (back_P _ _ _ _ e hv3)
theorem sx_lawPairs {n : Nat} {H : Hp} (h : n ≤ 6) : SpX spLawPairs [.int n] H (NP (pairsOf n)) := fun H1 e Q q E => ⟨n, rfl, h, q⟩
end
end Lw

--@ uses: math_tally law_wiped law_pairs math_cnt
namespace Lw
section
variable {P : Program} {w : World} {K : PySem.W.Frag} {mg : Str → Option Value} {base : Heap}
theorem val_nd {κ : Type} [DecidableEq κ] : ∀ {kvs : List (κ × V)}, (kvs.map (·.1)).Nodup → ∀ p ∈ kvs, valV kvs p.1 = some p.2
  | [], _, _, h => by cases h
  | e :: kvs, hn, p, h => by
    rw [List.map_cons, List.nodup_cons] at hn
    rcases List.mem_cons.mp h with z | z
    · rw [z, valV_pos rfl]
    · rw [valV_neg (fun y => hn.1 (by rw [y]; exact List.mem_map.mpr ⟨p, z, rfl⟩)), val_nd hn.2 p z]
theorem mD_nd {m : List (List Int × Nat)} (h : (m.map (·.1)).Nodup) : ((mD m).map (·.1)).Nodup := by
  unfold mD
  rw [List.map_map]
  have : ((fun e : List L2.Key × V => e.1) ∘ fun e : List Int × Nat => (kI e.1, V.int (e.2 : Int))) = kI ∘ fun e => e.1 := rfl
  rw [this, ← List.map_map]
  exact List.Pairwise.map _ (fun a b hab z => hab (kI_inj z)) h
theorem mD_at {m : List (List Int × Nat)} {i : Nat} {k : List L2.Key} {v : V} (h : (mD m)[i]? = some (k, v)) : ∃ e, m[i]? = some e ∧ k = kI e.1 ∧ v = .int (e.2 : Int) := by
  unfold mD at h
  rw [List.getElem?_map] at h
  cases e : m[i]? with
  | none => rw [e] at h; cases h
  | some x =>
    rw [e] at h
    have := Option.some.inj h
    exact ⟨x, rfl, (Prod.mk.inj this).1.symm, (Prod.mk.inj this).2.symm⟩
theorem mD_val {m : List (List Int × Nat)} {e : List Int × Nat} (hn : (m.map (·.1)).Nodup) (h : e ∈ m) : valV (mD m) (kI e.1) = some (.int (e.2 : Int)) :=
  val_nd (mD_nd hn) (kI e.1, V.int (e.2 : Int)) (List.mem_map.mpr ⟨e, h, rfl⟩)
theorem getM_snoc {m : List (List Int × Nat)} {e : List Int × Nat} (h : e.1 ∉ m.map (·.1)) (k : List Int) : getM (m ++ [e]) k = if k = e.1 then e.2 else getM m k := by
  induction m with
  | nil =>
    show getM [e] k = _
    rw [getM_cons]
    by_cases hk : e.1 = k
    · rw [if_pos hk, if_pos hk.symm]
    · rw [if_neg hk, if_neg (fun z => hk z.symm)]
  | cons a m ih =>
    rw [List.map_cons, List.mem_cons, not_or] at h
    rw [List.cons_append, getM_cons, getM_cons, ih h.2]
    by_cases ha : a.1 = k
    · rw [if_pos ha, if_pos ha, if_neg (fun z => h.1 (by rw [ha, z]))]
    · rw [if_neg ha, if_neg ha]
def spLawTally : Sp := fun vs H Q _ => ∃ (a : Addr) (ns : List Int), vs = [.ref a] ∧ H a = some (.lst (ns.map V.int)) ∧ Board ns ∧ RetX (NCnt ns) H Q
theorem ok_law_tally {f f1 f2 : Addr} {fd fd1 fd2 : FuncData} (D : Df K mg "_law_tally" s_law_tally ["_law_board_here"] f fd) (T : Blt mg)
    (o_law_pairs : Ok P w K mg base CX0 1 "_law_pairs" s_law_pairs ["_law_many"] spLawPairs f1 fd1)
    (o_law_wiped : Ok P w K mg base CX0 1 "_law_wiped" s_law_wiped ["_law_board_here", "_law_pair"] spWipedOf f2 fd2) : FnOk P w K mg base CX0 2 f fd ["_law_board_here"] spLawTally := by
  have ND := sc_law_tally.nd
  refine D.F.ok sc_law_tally (fun vs H Q E h => ?_) (fun cdv A outer s H vs Q E hr h => ?_)
  · obtain ⟨a, ns, rfl, _⟩ := h
    rfl
  · obtain ⟨a, ns, rfl, ha, hB, q⟩ := h
    have hu := hu_of hr
    refine ⟨_, (pss_cons /- 87 -/ (ps_set (i := 1) ND rfl (by first | exact .inl rfl | exact .inr rfl) (pe_dispT1 hr.units (pe_callTy (kTup' (K := K) rfl) (by rfl) T.tuple (by decide +kernel) (pa_cons (pv 0) pa_nil)) pe_int))
      (pss_cons /- 88 -/ (ps_for PassesOwn.never rfl (pi_range1 (by rfl) T.range (pa_cons (pe_op op_sub (pe_callB (kLen (K := K) rfl) (by rfl) T.len PySem.boot_len (pa_cons (pv 0) pa_nil)) pe_int) pa_nil)) (pg_name (i := 2) ND rfl (by first | exact .inl rfl | exact .inr rfl))
        (pss_cons /- 89 -/ (ps_set (i := 3) ND rfl (by first | exact .inl rfl | exact .inr rfl) pe_dnewT)
        (pss_cons /- 90 -/ (ps_lock (ps_for PassesOwn.never rfl (pi_keys (pv 1)) (pg_name (i := 4) ND rfl (by first | exact .inl rfl | exact .inr rfl))
          (pss_one /- 91 -/ (ps_for PassesOwn.never rfl (pi_list (pe_call o_law_pairs.G (hr.mono (by first | decide | omega)) rfl o_law_pairs.D.g o_law_pairs.D.F.kp o_law_pairs.D.b .nil pass0 (pa_cons (pe_callB (kLen (K := K) rfl) (by rfl) T.len PySem.boot_len (pa_cons (pv 4) pa_nil)) pa_nil))) (pg_name (i := 5) ND rfl (by first | exact .inl rfl | exact .inr rfl))
            (pss_cons /- 92 -/ (ps_set (i := 6) ND rfl (by first | exact .inl rfl | exact .inr rfl) (pe_callTy (kTup' (K := K) rfl) (by rfl) T.tuple (by decide +kernel) (pa_cons (pe_callB (kSortI (K := K) rfl) (by rfl) T.sorted (by decide +kernel) (pa_cons (pe_call o_law_wiped.G (hr.mono (by first | decide | omega)) rfl o_law_wiped.D.g o_law_wiped.D.F.kp o_law_wiped.D.b .nil pass0 (pa_cons (pe_callTy (kList (K := K) rfl) (by rfl) T.list (by decide +kernel) (pa_cons (pv 4) pa_nil)) (pa_cons (pv 5) pa_nil))) pa_nil)) pa_nil)))
            (pss_one /- 93 -/ (ps_dput hu (pv 3) (pv 6) (pe_op op_add (pe_dget2 hu (pv 3) (pv 6) pe_int ⟨rfl, rfl, rfl, rfl⟩) (pe_dget hu (pv 1) (pv 4) (fun _ _ => rfl))) rfl)))))))
        (pss_one /- 94 -/ (ps_set (i := 1) ND rfl (by first | exact .inl rfl | exact .inr rfl) (pv 3))))))
      (pss_cons /- 95 -/ (ps_set (i := 7) ND rfl (by first | exact .inl rfl | exact .inr rfl) pe_dnewK)
      (pss_cons /- 96 -/ (ps_lock (ps_for PassesOwn.never rfl (pi_keys (pv 1)) (pg_name (i := 4) ND rfl (by first | exact .inl rfl | exact .inr rfl))
        (pss_one /- 97 -/ (ps_dput hu (pv 7) (pe_ix (kIxT (K := K) rfl) (pv 4) pe_int (fun _ _ => rfl)) (pe_dget hu (pv 1) (pv 4) (fun _ _ => rfl)) rfl))))
      (pss_one /- 98 -/ (ps_ret (pv 7))))))), ?_⟩
    have hl : (ns.map V.int).length = ns.length := List.length_map _
    have b1 := hB.one
    have b6 := hB.six
    refine q_asgX (ex_dispT1 (ns := ns) (eu_tupL (ev_var rfl) (sq_of ha)) ev_c) fun v H1 e1 hv => ?_
    obtain ⟨d0, rfl, hd0, hd1⟩ := hv
    refine q_forR1 (n := (ns.length : Int) - 1) (ea_cons (ev_is (ev_op (ev_len (ev_var rfl) (sq_of (e1 _ _ ha))) ev_c rv_I0) (by rw [hl])) ea_nil) (by omega)
      (fun t σ' H' => ∃ y2 y3 y4 y5 y6 y7 d m, σ' = [some (.ref a), some (.ref d), y2, y3, y4, y5, y6, y7] ∧ Ex H H' ∧ H d = none ∧ H' d = some (.dT (mD m)) ∧ Line ns (ns.length - 1 - t) m ∧ m.length ≤ 15 ^ t)
      (fun H2 e2 => ⟨none, none, none, none, none, none, d0, [(ns, 1)], rfl, e1.trans e2, hd0, e2 _ _ hd1, by rw [Nat.sub_zero]; exact Line.start b1 hB.num, Nat.le_refl _⟩)
      (fun t σ' H2 ht ⟨y2, y3, y4, y5, y6, y7, d, m, hs, e2, hdn, hd, L, hm15⟩ => ?_) (fun σ' H2 ⟨y2, y3, y4, y5, y6, y7, d, m, hs, e2, hdn, hd, L, hm15⟩ => ?_)
    · subst hs
      have ht5 : t ≤ 4 := by omega
      have p15 : 15 ^ t ≤ 15 ^ 4 := Nat.pow_le_pow_right (by decide) ht5
      have p15' : (15 : Nat) ^ 4 = 50625 := by decide
      obtain ⟨n, hn⟩ : ∃ n, ns.length - 1 - t = n + 1 := ⟨ns.length - 1 - t - 1, by omega⟩
      have hn' : ns.length - 1 - (t + 1) = n := by omega
      rw [hn] at L
      refine q_asgX ex_newT fun v H3 e3 hv => ?_
      obtain ⟨mo, rfl, hmn, hmo⟩ := hv
      have hd3 := e3 _ _ hd
      have mod : mo ≠ d := fun z => by rw [z, hd] at hmn; cases hmn
      have hmn0 := fresh_back e2 hmn
      refine q_forKT (i := 1) (j := 4) rfl hd3 (fun od i σ' H' => ∃ y4 y5 y6 m', σ' = [some (.ref a), some (.ref d), some (.int t), some (.ref mo), y4, y5, y6, y7] ∧ ExS [d, mo] H3 H' ∧ H' d = some (.frz od (.dT (mD m))) ∧ H' mo = some (.dT (mD m')) ∧ More ns n m m' i 0)
        (fun od => ⟨_, _, _, [], rfl, (ExS.refl _).put List.mem_cons_self, upd_same, by rw [upd_ne mod]; exact hmo, More.start ns n m⟩) (fun od i σ' H' ⟨_, _, _, _, _, _, h, _⟩ => h)
        (fun od i k v qa σ' H' hkv hq ⟨z4, z5, z6, m', hs, s4, hdf, hmo', M⟩ => ?_) (fun od σ' H' ⟨z4, z5, z6, m', hs, s4, hdf, hmo', M⟩ => ?_)
      · subst hs
        obtain ⟨e, he, rfl, rfl⟩ := mD_at hkv
        have hem := List.mem_of_getElem? he
        have hi := (List.getElem?_eq_some_iff.mp he).1
        rw [kI_V] at hq
        have hle := L.len e hem
        have le6 : e.1.length ≤ 6 := by omega
        have h15 := pairs_len_six le6
        have hll : (e.1.map V.int).length = e.1.length := List.length_map _
        refine s_forP (ex_call back_P (ea_cons (ev_is (ev_lenT (ev_var rfl) (st_of hq)) (show V.int (((e.1.map V.int).length : Nat) : Int) = V.int (e.1.length : Int) by rw [hll])) ea_nil) (sx_lawPairs le6)) fun p xs H5 hp0 e5 hxs hps => ?_
        have hq5 := e5 _ _ hq
        have hdf5 := e5 _ _ hdf
        have hmo5 := e5 _ _ hmo'
        refine ⟨fun j σ' H'' => ∃ y5 y6 m'', σ' = [some (.ref a), some (.ref d), some (.int t), some (.ref mo), some (.ref qa), y5, y6, y7] ∧ ExS [mo] H5 H'' ∧ H'' mo = some (.dT (mD m'')) ∧ More ns n m m'' i j,
          ⟨_, _, m', rfl, ExS.refl _, hmo5, M⟩, fun j σ' H'' ⟨_, _, _, _, s, _⟩ => s p _ (by simp only [List.mem_singleton]; exact ne_of hxs hmo5 (fun z => nomatch z)) hxs, fun j pr tt σ' H'' hpr ht ⟨u5, u6, m'', hs, s6, hmo6, M'⟩ => ?_, fun σ' H'' ⟨u5, u6, m'', hs, s6, hmo6, M'⟩ => ?_⟩
        · subst hs
          obtain ⟨p0, p1, p2⟩ := pairs_mem (List.mem_of_getElem? hpr)
          have hj := (List.getElem?_eq_some_iff.mp hpr).1
          have hq6 := s6 qa _ (by simp only [List.mem_singleton]; exact ne_of hq5 hmo5 (fun z => nomatch z)) hq5
          have ht6 := s6 tt _ (by simp only [List.mem_singleton]; exact ne_of ht hmo5 (fun z => nomatch z)) ht
          have hdf6 := s6 d _ (by simp only [List.mem_singleton]; exact Ne.symm mod) hdf5
          refine q_asgU (xs := (srt (wp e.1 pr.1 pr.2)).map V.int) (eu_tupN (el_sortIN (el_x (exx_call back_L (RA := fun vs H2 => ∃ pl, vs = [.ref pl, .ref tt] ∧ H2 pl = some (.lst (e.1.map V.int)) ∧ H2 tt = some (.tup [.int pr.1, .int pr.2]))
            (eax_l (el_listT (ev_var rfl) (st_of hq6)) fun pl H7 e7 hpl => eax_v (ev_var rfl) (eax_nil fun H8 e8 => ⟨pl, rfl, e8 _ _ hpl, e8 _ _ (e7 _ _ ht6)⟩))
            fun vs H7 e7 hvs => by
              obtain ⟨pl, rfl, h1, h2⟩ := hvs
              exact sp_lx (sl_wipedOf h1 h2 p0 p1 p2 (by omega)))))) fun kt H7 _ e7 hkt => ?_
          have hmo7 := e7 _ _ hmo6
          have few := M'.few
          refine s_dputT (v := .int (((getM m'' (srt (wp e.1 pr.1 pr.2)) + e.2 : Nat) : Nat) : Int)) (ev_is (ev_op (ev_is (ev_dget2T (ev_var rfl) (ev_var rfl) ev_c hkt (.inl hmo7)) (valV_mD_getD _ _)) (ev_dgetT (ev_var rfl) (ev_var rfl) (e7 _ _ hq6) (.inr ⟨od, e7 _ _ hdf6⟩) (mD_val L.nd hem)) rv_I0) (congrArg V.int (by omega))) (ev_var rfl) (ev_var rfl) hkt hmo7 ?_ fun H8 e8 => ?_
          · unfold mD
            rw [List.length_map]
            omega
          · rw [mD_add]
            exact ⟨_, _, _, rfl, (s6.trans (ExS.of (e7.trans e8))).put List.mem_cons_self, upd_same, M'.step L he hpr⟩
        · subst hs
          refine ⟨_, _, _, m'', rfl, (s4.trans (ExS.of e5)).trans (s6.more (by simp)), s6 d _ (by simp only [List.mem_singleton]; exact Ne.symm mod) hdf5, hmo6, M'.turn L he h15⟩
      · subst hs
        have hml : (mD m).length = m.length := List.length_map _
        rw [hml] at M
        have few := M.few
        refine s_asg (v := .ref mo) (ev_var rfl) fun H5 e5 => ?_
        refine ⟨_, _, _, _, _, _, mo, m', rfl, ?_, hmn0, e5 _ _ ?_, ?_, ?_⟩
        · refine Ex.trans (ExS.ex (ms := [d, mo]) (e2.trans e3) (s4.put List.mem_cons_self) fun x hx => ?_) e5
          rcases List.mem_cons.mp hx with z | hx
          · rw [z]; exact hdn
          · rw [List.mem_singleton.mp hx]; exact hmn0
        · rw [upd_ne mod]
          exact hmo'
        · rw [hn']
          exact M.line L
        · rw [Nat.pow_succ]
          omega
    · subst hs
      rw [show ((ns.length : Int) - 1).toNat = ns.length - 1 by omega, Nat.sub_self] at L
      rw [show ((ns.length : Int) - 1).toNat = ns.length - 1 by omega] at hm15
      refine q_asgX ex_newK fun v H3 e3 hv => ?_
      obtain ⟨fo, rfl, hfn, hfo⟩ := hv
      have hd3 := e3 _ _ hd
      have fod : fo ≠ d := fun z => by rw [z, hd] at hfn; cases hfn
      have hfn0 := fresh_back e2 hfn
      refine q_forKT (i := 1) (j := 4) rfl hd3 (fun od i σ' H' => ∃ y4 fs, σ' = [some (.ref a), some (.ref d), y2, y3, y4, y5, y6, some (.ref fo)] ∧ ExS [d, fo] H3 H' ∧ H' d = some (.frz od (.dT (mD m))) ∧ H' fo = some (.dK fs) ∧ Cnt fs (fun x => getM (m.take i) [x]) ∧ fs.length ≤ i)
        (fun od => ⟨_, [], rfl, (ExS.refl _).put List.mem_cons_self, upd_same, by rw [upd_ne fod]; exact hfo, Cnt.nil.congr fun x => rfl, Nat.le_refl _⟩) (fun od i σ' H' ⟨_, _, _, _, h, _⟩ => h)
        (fun od i k v qa σ' H' hkv hq ⟨z4, fs, hs, s4, hdf, hfo', hC, hfl⟩ => ?_) (fun od σ' H' ⟨z4, fs, hs, s4, hdf, hfo', hC, hfl⟩ => ?_)
      · subst hs
        obtain ⟨e, he, rfl, rfl⟩ := mD_at hkv
        have hem := List.mem_of_getElem? he
        have hi := (List.getElem?_eq_some_iff.mp he).1
        rw [kI_V] at hq
        obtain ⟨x, hx⟩ := List.length_eq_one_iff.mp (L.len e hem)
        rw [hx] at hq
        have p5 : 15 ^ (ns.length - 1) ≤ 15 ^ 5 := Nat.pow_le_pow_right (by decide) (by omega)
        have p5' : (15 : Nat) ^ 5 = 759375 := by decide
        refine s_dputK (v := .int (e.2 : Int)) (n := x) (ev_dgetT (ev_var rfl) (ev_var rfl) (ns := e.1) (by rw [hx]; exact hq) (.inr ⟨od, hdf⟩) (mD_val L.nd hem)) (ev_var rfl) (ev_op (ev_var rfl) ev_c (rv_ixT (st_of hq) rfl)) hfo' (by omega) fun H5 e5 => ?_
        refine ⟨_, _, rfl, (s4.trans (ExS.of e5)).put (List.mem_cons_of_mem _ List.mem_cons_self), by rw [upd_ne (Ne.symm fod)]; exact e5 _ _ hdf, upd_same, ?_, ?_⟩
        · refine (hC.put (x := x) (c := e.2) (L.pos e hem)).congr fun y => ?_
          rw [List.take_add_one, he]
          have hnot : e.1 ∉ (m.take i).map (·.1) := fun hm => by
            obtain ⟨e', he', hee⟩ := List.mem_map.mp hm
            obtain ⟨j, hj, hje⟩ := List.mem_iff_getElem.mp he'
            rw [List.length_take] at hj
            rw [List.getElem_take] at hje
            have h1 : (m.map (·.1))[j]? = some e.1 := by rw [List.getElem?_map, List.getElem?_eq_getElem (by omega), hje]; exact congrArg some hee
            have h2 : (m.map (·.1))[i]? = some e.1 := by rw [List.getElem?_map, he]; rfl
            have := nd_ix L.nd h1 h2
            omega
          show _ = getM (m.take i ++ [e]) [y]
          rw [getM_snoc hnot, hx]
          by_cases hy : y = x
          · rw [if_pos hy, if_pos (by rw [hy])]
          · rw [if_neg hy, if_neg (fun z => hy (List.cons.inj z).1)]
        · have := length_putK fs (Sum.inl x : L2.Key) (.int (e.2 : Int))
          omega
      · subst hs
        have hml : (mD m).length = m.length := List.length_map _
        rw [hml, List.take_length] at hC
        refine s_ret (ev_var rfl) fun H5 e5 => q _ H5 (Ex.trans (ExS.ex (ms := [d, fo]) (e2.trans e3) (s4.put List.mem_cons_self) fun x hx => ?_) e5) ⟨fo, fs, rfl, hfn0, e5 _ _ (by rw [upd_ne fod]; exact hfo'), hC.congr fun x => L.last b1 x⟩
        rcases List.mem_cons.mp hx with z | hx
        · rw [z]; exact hdn
        · rw [List.mem_singleton.mp hx]; exact hfn0
theorem sx_lawTally {a : Addr} {ns : List Int} {H : Hp} (ha : H a = some (.lst (ns.map V.int))) (hB : Board ns) : SpX spLawTally [.ref a] H (NCnt ns) := fun H1 e Q q E => ⟨a, ns, rfl, e _ _ ha, hB, q⟩
end
end Lw

--@ uses: sp_law row_few row_bounds law_left law_tally
namespace Lw
section
variable {P : Program} {w : World} {K : PySem.W.Frag} {mg : Str → Option Value} {base : Heap}
section
variable {σ : L2.St} {H : Hp} {ta tb te tl : TE} {D : Ends} {tu tz : TS} {E : XK}
theorem q_forEnN {xs : List V} {j1 j2 : Nat} (h : EvL tl σ H xs) (Pv : Addr → Nat → L2.St → Hp → Prop) (h0 : ∀ p H1, H p = none → Ex H H1 → H1 p = some (.lst xs) → Pv p 0 σ H1) (hl : ∀ p i σ' H', i ≤ xs.length → Pv p i σ' H' → SqL K H' p xs)
    (hs : ∀ p i x σ' H' H2, xs[i]? = some x → Pv p i σ' H' → Ex H' H2 → tu { D with nx := Pv p (i + 1), ct := Pv p (i + 1), bk := tz D } ((σ'.set j1 (some (.int (i : Nat)))).set j2 (some x)) H2) (hd : ∀ p σ' H', Pv p xs.length σ' H' → tz D σ' H') :
    tSeq (tFor (iEnum K (tCons tl tNil)) (gTup K 2 (gCons (gName j1) (gCons (gName j2) gNil))) tu) tz D σ H :=
  h H (Ex.refl H) _ fun p H1 hp e h1 => ⟨p, xs, rfl, sq_of h1, for_it walk_enum (Pv p) (h0 p H1 hp e h1) (hl p) (fun i x σ' H' H2 hi pp y => by
    obtain ⟨T, v, w, rfl, hT, rfl, e1, e2⟩ := y
    cases e1
    exact g_two (H1 := H') upd_same (hs p i w σ' H' _ e2 pp (Ex.new hT))) (hd p)⟩
def AnyN : Hp → V → Hp → Prop := fun _ v _ => ∃ z : Nat, v = .int (z : Int)
theorem ex_absN (h : EvX ta σ H AnyI) : EvX (tCB rAbs (tCons ta tNil)) σ H AnyN := fun H1 e Q q =>
  h H1 e _ fun v H2 e2 ⟨z, ev⟩ => by
    subst ev
    exact ⟨z, rfl, q _ H2 e2 ⟨(if z < 0 then -z else z).toNat, congrArg V.int (by split <;> omega)⟩⟩
theorem ex_div3 {r : R2} (h : EvX ta σ H AnyN) (hb : Ev tb σ H (.int 3)) (hr : ∀ (z : Nat) H1, RV r (.int (z : Int)) (.int 3) H1 (.int ((z : Int) / 3))) : EvX (tOp r ta tb) σ H AnyN := fun H1 e Q q =>
  h H1 e _ fun v H2 e2 ⟨z, ev⟩ => hb H2 (e.trans e2) _ fun H3 e3 => by
    subst ev
    exact hr z H3 H3 (Ex.refl _) Q fun H4 e4 => q _ H4 ((e2.trans e3).trans e4) ⟨z / 3, congrArg V.int (by omega)⟩
/-- row_bounds of .. -/
theorem eu_bounds {n : Int} (h : Ev ta σ H (.int n)) (h1 : 1 ≤ n) (h2 : n ≤ 10 ^ 40) : EvU (tCall spBounds [] E (tCons ta tNil)) σ H [.int (oddOf n), .int (hiOf n)] := eu_x (ex_call back_U (ea_cons h ea_nil) (sx_bounds h1 h2))
theorem sx_rowLed {n : Nat} {x : Int} (h1 : 1 ≤ n) (h2 : n ≤ 60) (h3 : oddOf n ≤ x) (h4 : x ≤ hiOf n) (h5 : x % 2 = oddOf n) : SpX spRowLed [.int (n : Int), .int x] H (NRow n x) := fun H1 e Q q E => ⟨n, x, rfl, h1, h2, h3, h4, h5, q⟩
end
theorem ed_row {σ : L2.St} {H : Hp} {te : TE} {n : Nat} {x : Int} {qs : List (Int × Int)} (h : EvX te σ H (NRow n x)) (hq : ∀ ps, leftB (asc n) ps = some x → ps = qs) : EvD K te σ H qs := fun H1 e Q q =>
  h H1 e _ fun v H2 e2 ⟨l, ws, ps, ev, _, hl, hp, hL⟩ => by
    subst ev
    rw [hq ps hL] at hp
    exact q _ H2 e2 (at_prs hl hp)
theorem ed_nil0 {σ : L2.St} {H : Hp} : EvD K (tLst tNil) σ H ([] : List (Int × Int)) := fun H1 e Q q => ⟨sz_of (show 0 ≤ 100000 by decide), fun l hl => q _ _ (Ex.new hl) (at_prs upd_same .nil)⟩
theorem hi_bits (n : Int) : (hiOf n = n ∨ hiOf n = n - 1) ∧ hiOf n % 2 = oddOf n := by
  have := odd01 n
  unfold hiOf
  split
  · exact ⟨.inl rfl, by assumption⟩
  · exact ⟨.inr rfl, by omega⟩
theorem ok_law {f f1 f2 f3 f4 f5 : Addr} {fd fd1 fd2 fd3 fd4 fd5 : FuncData} (D : Df K mg "law" s_law ["_law_script"] f fd) (T : Blt mg)
    (o_law_number : Ok P w K mg base CX0 1 "_law_number" s_law_number ["_law_cell", "_law_at", "_law_whole"] spLawNumber f1 fd1)
    (o_law_tally : Ok P w K mg base CX0 2 "_law_tally" s_law_tally ["_law_board_here"] spLawTally f2 fd2)
    (o_law_left : Ok P w K mg base CX0 2 "_law_left" s_law_left ["_law_board_here", "_law_pairs_here"] spLeft f3 fd3)
    (o_row_bounds : Ok P w K mg base CX0 3 "row_bounds" s_row_bounds ["many"] spBounds f4 fd4)
    (o_row_led : Ok P w K mg base CX0 3 "row_led" s_row_led ["many", "last"] spRowLed f5 fd5) : FnOk P w K mg base CX0 4 f fd ["_law_script"] (spLaw K) := by
  have ND := sc_law.nd
  refine D.F.ok sc_law (fun vs H Q E h => ?_) (fun cdv Ar outer s H vs Q E hr h => ?_)
  · obtain ⟨a, ns, rfl, _⟩ := h
    rfl
  · obtain ⟨a, ns, rfl, S, q⟩ := h
    have hu := hu_of hr
    refine ⟨_, (pss_cons /- 106 -/ (ps_set (i := 1) ND rfl (by first | exact .inl rfl | exact .inr rfl) (pe_callB kAbs (by rfl) T.abs (by decide +kernel) (pa_cons (pe_callB (kSum (K := K) rfl rfl) (by rfl) T.sum (by decide +kernel) (pa_cons (pe_slice (kSl (K := K) rfl) (pv 0) po_none (po_some pe_int)) pa_nil)) pa_nil)))
      (pss_cons /- 107 -/ (ps_set (i := 2) ND rfl (by first | exact .inl rfl | exact .inr rfl) (pe_op op_add pe_int (pe_op op_mod (pv 1) pe_int)))
      (pss_cons /- 108 -/ (ps_asg (pe_call o_row_bounds.G (hr.mono (by first | decide | omega)) rfl o_row_bounds.D.g o_row_bounds.D.F.kp o_row_bounds.D.b .nil pass0 (pa_cons (pv 2) pa_nil)) (kgTup (K := K) (n := 2) rfl rfl (pgs_cons (pg_name (i := 3) ND rfl (by first | exact .inl rfl | exact .inr rfl)) (pgs_cons (pg_name (i := 4) ND rfl (by first | exact .inl rfl | exact .inr rfl)) pgs_nil))))
      (pss_cons /- 109 -/ (ps_if (pt_cmpR (kNeD (K := K) rfl hr.units) (pe_callB (kSortI (K := K) rfl) (by rfl) T.sorted (by decide +kernel) (pa_cons (pe_callTy (call_list_dK rfl) (by rfl) T.list (by decide +kernel) (pa_cons (pe_call o_law_tally.G (hr.mono (by first | decide | omega)) rfl o_law_tally.D.g o_law_tally.D.F.kp o_law_tally.D.b .nil pass0 (pa_cons (pe_listRg rfl (by rfl) T.list (prg_2 (by rfl) T.range pe_int (pe_op op_add (pv 2) pe_int))) pa_nil)) pa_nil)) pa_nil)) (pe_listRg3 rfl (by rfl) T.list (by rfl) T.range (pa_cons (pv 3) (pa_cons (pe_op op_add (pv 4) pe_int) (pa_cons pe_int pa_nil)))) (nomark _))
        (pss_one /- 110 -/ (ps_ret pe_bl))
        pss_nil)
      (pss_cons /- 111 -/ (ps_for PassesOwn.never rfl (pi_enum (by rfl) T.enumerate (pa_cons (pe_op op_cat (pe_slice (kSl (K := K) rfl) (pv 0) po_none (po_some pe_int)) (pe_lst (pa_cons pe_int pa_nil))) pa_nil)) (kgTup (K := K) (n := 2) rfl rfl (pgs_cons (pg_name (i := 5) ND rfl (by first | exact .inl rfl | exact .inr rfl)) (pgs_cons (pg_name (i := 6) ND rfl (by first | exact .inl rfl | exact .inr rfl)) pgs_nil)))
        (pss_cons /- 112 -/ (ps_set (i := 7) ND rfl (by first | exact .inl rfl | exact .inr rfl) (pe_op op_fdivW (pe_callB kAbs (by rfl) T.abs (by decide +kernel) (pa_cons (pe_call o_law_number.G (hr.mono (by first | decide | omega)) rfl o_law_number.D.g o_law_number.D.F.kp o_law_number.D.b .nil pass0 (pa_cons (pv 6) (pa_cons (pe_op op_add (pv 5) pe_int) (pa_cons (pv 1) pa_nil)))) pa_nil)) pe_int))
        (pss_cons /- 113 -/ (ps_set (i := 8) ND rfl (by first | exact .inl rfl | exact .inr rfl) (pe_op op_add pe_int (pe_op op_mod (pv 7) (pe_op op_pow pe_int pe_int))))
        (pss_cons /- 114 -/ (ps_set (i := 9) ND rfl (by first | exact .inl rfl | exact .inr rfl) (pe_call o_row_bounds.G (hr.mono (by first | decide | omega)) rfl o_row_bounds.D.g o_row_bounds.D.F.kp o_row_bounds.D.b .nil pass0 (pa_cons (pv 8) pa_nil)))
        (pss_cons /- 115 -/ (ps_set (i := 10) ND rfl (by first | exact .inl rfl | exact .inr rfl) (pe_op op_mod (pe_op op_fdivW (pe_op op_mulZ (pv 8) (pe_op op_add (pv 8) pe_int)) pe_int) pe_int))
        (pss_cons /- 116 -/ (ps_if (PW.pt (pw_or (pt_not (pt_val (pe_callB (kIsi (K := K) rfl) (by rfl) T.isinstance (by decide +kernel) (pa_cons (pv 9) (pa_cons (pe_bltn (v := .ty "tuple") (by rfl) T.tuple boot_tuple rfl) pa_nil))))) (pw_or (pt_cmpR op_ne (pe_ix (kIxT (K := K) rfl) (pv 9) pe_int (fun _ _ => rfl)) (pv 10) (nomark _)) (pw_or (pt_cmpR (kNotIn (K := K) rfl) (pe_ix (kIxT (K := K) rfl) (pv 9) pe_int (fun _ _ => rfl)) (pe_lst (pa_cons (pv 8) (pa_cons (pe_op op_sub (pv 8) pe_int) pa_nil))) (by rfl)) (pw_or1 (pt_cmpR op_ne (pe_op op_mod (pe_ix (kIxT (K := K) rfl) (pv 9) pe_int (fun _ _ => rfl)) pe_int) (pv 10) (nomark _)))))))
          (pss_one /- 117 -/ (ps_ret pe_bl))
          pss_nil)
        (pss_cons /- 118 -/ (ps_if (pt_val (pe_callB (kAny (K := K) rfl rfl) (by rfl) T.any (by decide +kernel) (pa_cons (pe_lc (own := [("_law_one", 14)]) (by rfl) ND (pi_tup (pv 9)) (blkOk_by (own := [("_law_one", 14)]) (N := ["_law_script", "_law_whole", "_law_few", "_law_low", "_law_high", "_law_at", "_law_cell", "_law_number_here", "_law_great", "_law_found", "_law_odd", "_law_many", "_law_last", "_law_again", "_law_one"]) (sc := defScope s_law) (by decide +kernel)) (fun _ _ _ _ _ => (pg_name (i := 14) ND rfl (.inl rfl))) (fun _ _ _ _ _ => pts_nil) (fun _ _ _ _ _ => (pe_callB (kIsi (K := K) rfl) (by rfl) T.isinstance (by decide +kernel) (pa_cons (pv 14) (pa_cons (pe_bltn (v := .ty "bool") (by rfl) T.bool boot_bool rfl) pa_nil))))) pa_nil)))
          (pss_one /- 119 -/ (ps_ret pe_bl))
          pss_nil)
        (pss_cons /- 120 -/ (ps_set (i := 11) ND rfl (by first | exact .inl rfl | exact .inr rfl) (pe_op op_add pe_int (pe_op op_mod (pv 7) (pe_ifExp (pt_cmpR op_eq (pe_op op_mod (pe_op op_fdivW (pv 1) pe_int) pe_int) pe_int (nomark _)) pe_int pe_int))))
        (pss_cons /- 121 -/ (ps_asg (pe_call o_row_bounds.G (hr.mono (by first | decide | omega)) rfl o_row_bounds.D.g o_row_bounds.D.F.kp o_row_bounds.D.b .nil pass0 (pa_cons (pv 11) pa_nil)) (kgTup (K := K) (n := 2) rfl rfl (pgs_cons (pg_name (i := 3) ND rfl (by first | exact .inl rfl | exact .inr rfl)) (pgs_cons (pg_name (i := 4) ND rfl (by first | exact .inl rfl | exact .inr rfl)) pgs_nil))))
        (pss_one /- 122 -/ (ps_for PassesOwn.never rfl (pi_list (pe_lst (pa_cons (pv 3) (pa_cons (pv 4) (pa_cons (pe_op op_add (pv 3) (pe_op op_mulZ (pe_op op_mod (pe_op op_fdivW (pv 7) pe_int) (pe_op op_add (pe_op op_fdivW (pe_op op_sub (pv 4) (pv 3)) pe_int) pe_int)) pe_int)) pa_nil))))) (pg_name (i := 12) ND rfl (by first | exact .inl rfl | exact .inr rfl))
          (pss_one /- 123 -/ (ps_for PassesOwn.never rfl (pi_range1 (by rfl) T.range (pa_cons pe_int pa_nil)) (pg_name (i := 13) ND rfl (by first | exact .inl rfl | exact .inr rfl))
            (pss_cons /- 124 -/ (ps_set (i := 9) ND rfl (by first | exact .inl rfl | exact .inr rfl) (pe_call o_row_led.G (hr.mono (by first | decide | omega)) rfl o_row_led.D.g o_row_led.D.F.kp o_row_led.D.b .nil pass0 (pa_cons (pv 11) (pa_cons (pv 12) pa_nil))))
            (pss_cons /- 125 -/ (ps_if (PW.pt (pw_or (pt_not (pt_val (pe_callB (kIsi (K := K) rfl) (by rfl) T.isinstance (by decide +kernel) (pa_cons (pv 9) (pa_cons (pe_bltn (v := .ty "list") (by rfl) T.list boot_list rfl) pa_nil))))) (pw_or1 (pt_cmpR op_ne (pe_callB (kLen (K := K) rfl) (by rfl) T.len PySem.boot_len (pa_cons (pv 9) pa_nil)) (pe_op op_sub (pv 11) pe_int) (nomark _)))))
              (pss_one /- 126 -/ (ps_ret pe_bl))
              pss_nil)
            (pss_cons /- 127 -/ (ps_if (pt_cmpR op_ne (pe_call o_law_left.G (hr.mono (by first | decide | omega)) rfl o_law_left.D.g o_law_left.D.F.kp o_law_left.D.b .nil pass0 (pa_cons (pe_listRg rfl (by rfl) T.list (prg_2 (by rfl) T.range pe_int (pe_op op_add (pv 11) pe_int))) (pa_cons (pv 9) pa_nil))) (pv 12) (nomark _))
              (pss_one /- 128 -/ (ps_ret pe_bl))
              pss_nil)
            (pss_one /- 129 -/ (ps_expr (pe_bm PySem.F.plainAttrs_list PySem.F.slot_list_append PySem.F.type_list_append mt_append (pv 9) (pa_cons (pe_tup (pa_cons pe_int (pa_cons pe_int pa_nil))) pa_nil))))))))))))))))))))
      (pss_one /- 130 -/ (ps_ret (pe_and (pe_cmpR (kEqD (K := K) rfl hr.units) (pe_call o_row_bounds.G (hr.mono (by first | decide | omega)) rfl o_row_bounds.D.g o_row_bounds.D.F.kp o_row_bounds.D.b .nil pass0 (pa_cons pe_int pa_nil)) (pe_tup (pa_cons pe_int (pa_cons pe_int pa_nil))) (nomark _)) (pe_and (pe_cmpR (kEqD (K := K) rfl hr.units) (pe_call o_row_bounds.G (hr.mono (by first | decide | omega)) rfl o_row_bounds.D.g o_row_bounds.D.F.kp o_row_bounds.D.b .nil pass0 (pa_cons pe_int pa_nil)) (pe_tup (pa_cons pe_int (pa_cons pe_int pa_nil))) (nomark _)) (pe_and (pe_cmpR (kEqD (K := K) rfl hr.units) (pe_call o_row_led.G (hr.mono (by first | decide | omega)) rfl o_row_led.D.g o_row_led.D.F.kp o_row_led.D.b .nil pass0 (pa_cons pe_int (pa_cons pe_int pa_nil))) (pe_lst pa_nil) (nomark _)) (pe_one (pe_cmpR (kEqD (K := K) rfl hr.units) (pe_call o_row_bounds.G (hr.mono (by first | decide | omega)) rfl o_row_bounds.D.g o_row_bounds.D.F.kp o_row_bounds.D.b .nil pass0 (pa_cons pe_int pa_nil)) (pe_tup (pa_cons pe_int (pa_cons pe_int pa_nil))) (nomark _))))))))))))), ?_⟩
    refine q_asg (ev_whole (ev_var rfl) S ev_c) fun H0 e0 => ?_
    have w0 : 0 ≤ ((ns.sum.natAbs : Nat) : Int) := by omega
    generalize ((ns.sum.natAbs : Nat) : Int) = whole at *
    obtain ⟨few, hfew, f1', f6'⟩ : ∃ few : Nat, 1 + whole % 6 = (few : Int) ∧ 1 ≤ few ∧ few ≤ 6 := ⟨(1 + whole % 6).toNat, by omega, by omega, by omega⟩
    refine q_asg (v := .int (few : Int)) (ev_is (ev_op ev_c (ev_op (ev_var rfl) ev_c (rv_I (show (0 : Int) < 6 by decide))) rv_I0) (congrArg V.int hfew)) fun H1 e1 => ?_
    have z40 : (60 : Int) ≤ 10 ^ 40 := by decide
    refine q_asg2N (eu_bounds (ev_var rfl) (by omega) (by omega)) fun H2 e2 => ?_
    have hBf : Board (asc few) := ⟨by rw [asc_len]; exact f1', by rw [asc_len]; exact f6', fun x hx => by have := asc_mem.mp hx; omega⟩
    have hIf : IsLasts (asc few) (twos (oddOf (few : Int)) (hiOf (few : Int))) := few_lasts few (by
      have : few = 1 ∨ few = 2 ∨ few = 3 ∨ few = 4 ∨ few = 5 ∨ few = 6 := by omega
      simpa using this)
    have of1 := odd01 (few : Int)
    have hf1 := hi_le (few : Int)
    have hlo : ∀ n : Int, 1 ≤ n → oddOf n ≤ hiOf n := fun n hn => by
      have h1 := odd01 n
      have h2 := hi_bits n
      omega
    refine q_when (b := false) ?_ (fun h => nomatch h) fun _ H3 e3 => ?_
    · refine et_is (et_test (ev_neD (x := twos (oddOf (few : Int)) (hiOf (few : Int))) (ed_l (el_lasts (ex_sortKeys (ex_s (exx_call back_Cnt (RA := fun vs H2 => ∃ p, vs = [.ref p] ∧ H2 p = some (.lst ((asc few).map V.int))) (eax_l (el_is (el_rg2 ev_c (ev_op (ev_var rfl) ev_c rv_I0) (RgOk.of_le (by omega) (by omega) (by omega) (by omega))) rgV_asc) fun p H1 e1 hp => eax_nil fun H2 e2 => ⟨p, rfl, e2 _ _ hp⟩) fun vs H1 e1 ⟨p, hv, hp⟩ => by
        subst hv
        exact sx_lawTally hp hBf))) hIf)) (ed_l (el_rg3 (ea_cons (ev_var rfl) (ea_cons (ev_op (ev_var rfl) ev_c rv_I0) (ea_cons ev_c ea_nil))) of1.1 (hlo _ (by omega)) (by omega))))) ?_
      rw [decide_eq_true rfl]
      rfl
    have e03 := ((e0.trans e1).trans e2).trans e3
    refine q_forEnN (xs := (ns.take 3 ++ [4]).map V.int) ?_ (fun p i σ' H' => ∃ y3 y4 y5 y6 y7 y8 y9 y10 y11 y12 y13 y14, σ' = [some (.ref a), some (.int whole), some (.int (few : Int)), y3, y4, y5, y6, y7, y8, y9, y10, y11, y12, y13, y14] ∧ Ex H H' ∧ H' p = some (.lst ((ns.take 3 ++ [4]).map V.int)))
      (fun p H4 hp e4 h4 => ⟨_, _, none, none, none, none, none, none, none, none, none, none, rfl, e03.trans e4, h4⟩) (fun p i σ' H' _ ⟨_, _, _, _, _, _, _, _, _, _, _, _, _, _, h⟩ => sq_of h) (fun p i x σ' H4 H5 hx ⟨y3, y4, y5, y6, y7, y8, y9, y10, y11, y12, y13, y14, hs, e4, h4⟩ e5 => ?_) (fun p σ' H4 ⟨y3, y4, y5, y6, y7, y8, y9, y10, y11, y12, y13, y14, hs, e4, h4⟩ => ?_)
    · rw [List.map_append]
      refine el_catN (el_is (el_sl (ev_var rfl) eo_none (eo_some (i := ((3 : Nat) : Int)) ev_c) (S.mono e03).at') (by rw [cut_take, List.map_take])) (el_lst (ea_cons ev_c ea_nil) (by show 1 ≤ 100000; decide)) ?_
      rw [List.length_map, List.length_take]
      show _ + 1 ≤ 100000
      omega
    · subst hs
      obtain ⟨c, hc, rfl⟩ := int_at hx
      have hcl := (List.getElem?_eq_some_iff.mp hc).1
      rw [List.length_append, List.length_take] at hcl
      have l1 : ([4] : List Int).length = 1 := rfl
      obtain ⟨M, hM, hcM⟩ : ∃ M, M ≤ 2000000 ∧ c.natAbs < 2 ^ M := by
        rcases List.mem_append.mp (List.mem_of_getElem? hc) with h | h
        · have := S.bits c (List.mem_of_mem_take h)
          exact ⟨_, by omega, sz_bits⟩
        · rw [List.mem_singleton.mp h]
          exact ⟨3, by decide, by decide⟩
      refine q_asgX (ex_div3 (ex_absN (ex_call back_I (ea_cons (ev_var rfl) (ea_cons (ev_op (ev_var rfl) ev_c rv_I0) (ea_cons (ev_var rfl) ea_nil))) (sx_lawNumber hcM hM (by omega) (by omega)))) ev_c fun z H1 => rv_I (divOk (by decide) (by decide))) fun v H6 e6 ⟨num, hv⟩ => ?_
      subst hv
      have e46 := e5.trans e6
      have c30 : CPow 10 30 := by unfold CPow; decide
      have p30 : (0 : Int) < (10 : Int) ^ (30 : Int).toNat := by decide
      have p3040 : (10 : Int) ^ (30 : Int).toNat < 10 ^ 40 := by decide
      obtain ⟨g, hg, g1, g2⟩ : ∃ g : Int, 1 + (num : Int) % (10 : Int) ^ (30 : Int).toNat = g ∧ 1 ≤ g ∧ g ≤ 10 ^ 40 := ⟨_, rfl, by
        have := Int.emod_nonneg (num : Int) (Int.ne_of_gt p30)
        omega, by
        have := Int.emod_lt_of_pos (num : Int) p30
        omega⟩
      refine q_asg (v := .int g) (ev_is (ev_op ev_c (ev_op (ev_var rfl) (ev_op ev_c ev_c (rv_I c30)) (rv_I p30)) rv_I0) (congrArg V.int hg)) fun H7 e7 => ?_
      refine q_asgU (eu_bounds (ev_var rfl) g1 g2) fun pt H8 hpt e8 h8 => ?_
      have z : (10 : Nat) ^ 40 < 2 ^ 140 := by decide
      have z2 : (10 : Int) ^ 40 = ((10 ^ 40 : Nat) : Int) := by decide
      have mo : IntMulOk g (g + 1) := mulOk (a := 140) (b := 141) (by omega) (by omega) (by decide)
      refine q_asg (v := .int (oddOf g)) (ev_op (ev_op (ev_op (ev_var rfl) (ev_op (ev_var rfl) ev_c rv_I0) (rv_I mo)) ev_c (rv_I (divOk (by decide) (by decide)))) ev_c (rv_I (show (0 : Int) < 2 by decide))) fun H9 e9 => ?_
      have h9 := e9 _ _ h8
      have hgb := hi_bits g
      have hin : inV (.int (hiOf g)) [.int g, .int (g - 1)] = true := by
        show (([.int g, .int (g - 1)] : List V).any fun y => eqV y (.int (hiOf g))) = true
        rw [List.any_cons, List.any_cons, eqV_int, eqV_int]
        rcases hgb.1 with h | h
        · rw [h, decide_eq_true rfl]
          rfl
        · rw [h, decide_eq_true (rfl : g - 1 = g - 1), Bool.true_or, Bool.or_true]
      refine q_when (b := false) ?_ (fun h => nomatch h) fun _ H10 e10 => ?_
      · refine et_is (et_or (et_not (et_B (ev_isi (b := true) (ev_var rfl) ev_c (fun H1 e1 => .base (.tup (e1 _ _ h9))) (by decide +kernel)))) fun _ => et_or (et_test (ev_op (ev_op (ev_var rfl) ev_c (rv_ixT (st_of h9) rfl)) (ev_var rfl) (rv_ne rfl))) fun _ => et_or (et_test (ev_opL (ev_op (ev_var rfl) ev_c (rv_ixT (st_of h9) rfl)) (el_lst (ea_cons (ev_var rfl) (ea_cons (ev_op (ev_var rfl) ev_c rv_I0) ea_nil)) (by show 2 ≤ 100000; decide)) fun p H1 hp _ => rv_niL (sq_of hp) rfl rfl)) fun _ => et_test (ev_op (ev_op (ev_op (ev_var rfl) ev_c (rv_ixT (st_of h9) rfl)) ev_c (rv_I (show (0 : Int) < 2 by decide))) (ev_var rfl) (rv_ne rfl))) ?_
        rw [hgb.2, hin, decide_eq_true rfl]
        rfl
      have h10 := e10 _ _ h9
      refine q_when (b := false) ?_ (fun h => nomatch h) fun _ H11 e11 => ?_
      · have zz : ((List.range ([.int (oddOf g), .int (hiOf g)] : List V).length).map fun _ => false).any id = false := any_range fun _ _ => rfl
        refine et_is (et_B (ev_any (bs := (List.range ([.int (oddOf g), .int (hiOf g)] : List V).length).map fun _ => false) ?_)) zz
        rw [← given_bl (b := fun _ => false)]
        refine el_lcV _ _ (ei_tup (ev_var rfl) (st_of h10)) (by show 2 ≤ 15000000; decide) (fun i x H2 H3 e2 hi y => ?_) gm_name
        obtain ⟨rfl, hx⟩ := y
        obtain ⟨n, hn, rfl⟩ := int_at (ns := [oddOf g, hiOf g]) hx
        exact ⟨rfl, Ex.refl _, et_yes, fun _ => ev_isi (ev_var rfl) ev_c (fun _ _ => .base (.int n)) (by decide +kernel)⟩
      obtain ⟨mst, hmst, m1, m6⟩ : ∃ mst : Int, mst = (if whole / 6 % 8 = 3 then 60 else 20) ∧ 1 ≤ mst ∧ mst ≤ 60 := ⟨_, rfl, by split <;> decide, by split <;> decide⟩
      obtain ⟨k, hk, k1, k6⟩ : ∃ k : Nat, 1 + (num : Int) % mst = (k : Int) ∧ 1 ≤ k ∧ k ≤ 60 := by
        have h1 := Int.emod_nonneg (num : Int) (show mst ≠ 0 by omega)
        have h2 := Int.emod_lt_of_pos (num : Int) (show 0 < mst by omega)
        exact ⟨(1 + (num : Int) % mst).toNat, by omega, by omega, by omega⟩
      refine q_asg (v := .int (k : Int)) (ev_is (ev_op ev_c (ev_op (y := .int mst) (ev_var rfl) (ev_if (b := decide (V.int (whole / 6 % 8) = V.int 3)) (et_test (ev_op (ev_op (ev_op (ev_var rfl) ev_c (rv_I (divOk (by decide) (by decide)))) ev_c (rv_I (show (0 : Int) < 8 by decide))) ev_c (rv_eq rfl))) (fun h => ?_) (fun h => ?_)) (rv_I (show 0 < mst by omega))) rv_I0) (congrArg V.int hk)) fun H12 e12 => ?_
      · rw [hmst, if_pos (V.int.inj (of_decide_eq_true h))]
        exact ev_c
      · rw [hmst, if_neg (fun z => of_decide_eq_false h (congrArg V.int z))]
        exact ev_c
      refine q_asg2N (eu_bounds (ev_var rfl) (by omega) (by omega)) fun H13 e13 => ?_
      have ok1 := odd01 (k : Int)
      have hk1 := hi_le (k : Int)
      have hk2 := hi_bits (k : Int)
      have hkl := hlo (k : Int) (by omega)
      have e413 := (((((((e46.trans e7).trans e8).trans e9).trans e10).trans e11).trans e12).trans e13)
      have d0 : 0 < (hiOf (k : Int) - oddOf (k : Int)) / 2 + 1 := by omega
      obtain ⟨tt, htt, t0, t1⟩ : ∃ tt : Int, tt = (num : Int) / 61 % ((hiOf (k : Int) - oddOf (k : Int)) / 2 + 1) ∧ 0 ≤ tt ∧ tt < (hiOf (k : Int) - oddOf (k : Int)) / 2 + 1 := ⟨_, rfl, Int.emod_nonneg _ (by omega), Int.emod_lt_of_pos _ d0⟩
      have mo2 : IntMulOk tt 2 := mulOk (a := 10) (b := 2) (by omega) (by decide) (by decide)
      refine s_forNLn (xs := [oddOf (k : Int), hiOf (k : Int), oddOf (k : Int) + tt * 2].map V.int) ?_ (fun p2 i2 σ' H' => ∃ y9 y12 y13 y14, σ' = [some (.ref a), some (.int whole), some (.int (few : Int)), some (.int (oddOf (k : Int))), some (.int (hiOf (k : Int))), some (.int (i : Nat)), some (.int c), some (.int (num : Int)), some (.int g), y9, some (.int (oddOf g)), some (.int (k : Int)), y12, y13, y14] ∧ Ex H13 H' ∧ H' p2 = some (.lst ([oddOf (k : Int), hiOf (k : Int), oddOf (k : Int) + tt * 2].map V.int)))
        (fun p2 H14 hp2 e14 h14 => ⟨_, _, _, _, rfl, e14, h14⟩) (fun p2 i2 σ' H' _ ⟨_, _, _, _, _, _, h⟩ => sq_of h) (fun p2 i2 x2 σ' H14 hx2 ⟨z9, z12, z13, z14, hs, e14, h14⟩ => ?_) (fun p2 σ' H14 ⟨z9, z12, z13, z14, hs, e14, h14⟩ => ?_)
      · refine el_lst (ea_cons (ev_var rfl) (ea_cons (ev_var rfl) (ea_cons (ev_op (ev_var rfl) (ev_op (x := .int tt) (ev_is (ev_op (ev_op (ev_var rfl) ev_c (rv_I (divOk (by decide) (by decide)))) (ev_op (ev_op (ev_op (ev_var rfl) (ev_var rfl) rv_I0) ev_c (rv_I (divOk (by decide) (by decide)))) ev_c rv_I0) (rv_I d0)) (congrArg V.int htt.symm)) ev_c (rv_I mo2)) rv_I0) ea_nil))) (by show 3 ≤ 100000; decide)
      · subst hs
        obtain ⟨x, hx3, rfl⟩ := int_at hx2
        have hxv : oddOf (k : Int) ≤ x ∧ x ≤ hiOf (k : Int) ∧ x % 2 = oddOf (k : Int) := by
          have := List.mem_of_getElem? hx3
          simp only [List.mem_cons, List.not_mem_nil, or_false] at this
          rcases this with h | h | h
          · rw [h]
            omega
          · rw [h]
            exact ⟨hkl, Int.le_refl _, hk2.2⟩
          · omega
        refine s_forR1 (n := 2) (ea_cons ev_c ea_nil) (by decide) (fun m2 σ' H' => ∃ y9 y13, σ' = [some (.ref a), some (.int whole), some (.int (few : Int)), some (.int (oddOf (k : Int))), some (.int (hiOf (k : Int))), some (.int (i : Nat)), some (.int c), some (.int (num : Int)), some (.int g), y9, some (.int (oddOf g)), some (.int (k : Int)), some (.int x), y13, z14] ∧ Ex H14 H') (fun H15 e15 => ⟨_, _, rfl, e15⟩) (fun m2 σ' H15 hm2 ⟨w9, w13, hs, e15⟩ => ?_) (fun σ' H15 ⟨w9, w13, hs, e15⟩ => ?_)
        · subst hs
          refine q_asgX (ex_call back_Row (ea_cons (ev_var rfl) (ea_cons (ev_var rfl) ea_nil)) (sx_rowLed k1 k6 hxv.1 hxv.2.1 hxv.2.2)) fun v H16 e16 ⟨l, ws, ps, hv, hl0, hl, hps, hL⟩ => ?_
          subst hv
          have pl := leftB_len hL
          rw [asc_len] at pl
          have wl := hps.len
          refine q_when (b := false) ?_ (fun h => nomatch h) fun _ H17 e17 => ?_
          · refine et_is (et_or (et_not (et_B (ev_isi (b := true) (ev_var rfl) ev_c (fun H1 e1 => .base (.lst (e1 _ _ hl))) (by decide +kernel)))) fun _ => et_test (ev_op (ev_len (ev_var rfl) (sq_of hl)) (ev_op (ev_var rfl) ev_c rv_I0) (rv_ne rfl))) ?_
            rw [decide_eq_true (congrArg V.int (by omega))]
            rfl
          have hl17 := e17 _ _ hl
          have hps17 := hps.mono e17
          refine q_when (b := false) ?_ (fun h => nomatch h) fun _ H18 e18 => ?_
          · refine et_is (et_test (ev_op (x := optV (leftB (asc k) ps)) (ev_x (exx_call back_V (RA := fun vs H2 => ∃ p, vs = [.ref p, .ref l] ∧ H2 p = some (.lst ((asc k).map V.int)) ∧ H2 l = some (.lst ws) ∧ Prs H2 ws ps) (eax_l (el_is (el_rg2 ev_c (ev_op (ev_var rfl) ev_c rv_I0) (RgOk.of_le (by omega) (by omega) (by omega) (by omega))) rgV_asc) fun p H1 e1 hp => eax_v (ev_var rfl) (eax_nil fun H2 e2 => ⟨p, rfl, e2 _ _ hp, (e1.trans e2) _ _ hl17, hps17.mono (e1.trans e2)⟩)) fun vs H1 e1 ⟨p, hv, hp, hl1, hp1⟩ => by
              subst hv
              exact sp_vx (sv_left hp hl1 hp1 (by rw [asc_len]; omega)))) (ev_var rfl) (rv_ne (optV_scal _ _)))) ?_
            rw [hL]
            show (!decide (V.int x = V.int x)) = false
            rw [decide_eq_true rfl]
            rfl
          refine s_appU (l := l) (e18 _ _ hl17) (ev_var rfl) (eu_tup (ea_cons ev_c (ea_cons ev_c ea_nil)) (by show 2 ≤ 100000; decide)) (by omega) fun pt H19 hpt e19 hpt1 => ⟨_, _, rfl, e15.trans (Ex.mut (((e16.trans e17).trans e18).trans e19) hl0)⟩
        · subst hs
          exact ⟨_, _, _, _, rfl, e14.trans e15, e15 _ _ h14⟩
      · subst hs
        exact ⟨_, _, _, _, _, _, _, _, _, _, _, _, rfl, (e4.trans e413).trans e14, (e413.trans e14) _ _ h4⟩
    · subst hs
      have row1 : ∀ ps, leftB (asc 1) ps = some 1 → ps = [] := fun ps h => List.length_eq_zero_iff.mp (by
        have := leftB_len h
        rw [asc_len] at this
        omega)
      refine s_ret (v := .bl true) (ev_andV (a := true) (b := true && (true && true)) (ev_is (ev_eqD (x := (oddOf 4, hiOf 4)) (y := ((0 : Int), (4 : Int))) (ed_u (eu_bounds ev_c (by decide) (by decide))) (ed_u (eu_tup (ea_cons ev_c (ea_cons ev_c ea_nil)) (by decide)))) (by decide)) fun _ =>
        ev_andV (ev_is (ev_eqD (x := (oddOf 3, hiOf 3)) (y := ((0 : Int), (2 : Int))) (ed_u (eu_bounds ev_c (by decide) (by decide))) (ed_u (eu_tup (ea_cons ev_c (ea_cons ev_c ea_nil)) (by decide)))) (by decide)) fun _ =>
        ev_andV (ev_is (ev_eqD (x := ([] : List (Int × Int))) (y := []) (ed_row (n := 1) (x := 1) (qs := []) (ex_call back_Row (ea_cons ev_c (ea_cons ev_c ea_nil)) (sx_rowLed (by decide) (by decide) (by decide) (by decide) (by decide))) row1) ed_nil0) rfl) fun _ =>
        ev_is (ev_eqD (x := (oddOf 2, hiOf 2)) (y := ((1 : Int), (1 : Int))) (ed_u (eu_bounds ev_c (by decide) (by decide))) (ed_u (eu_tup (ea_cons ev_c (ea_cons ev_c ea_nil)) (by decide)))) (by decide)) fun H5 e5 => q H5 (e4.trans e5)
end
end Lw

namespace Lw
open PySem PySem.Spec PyProof.Rows L2 Evl Lw
theorem all_mk {l : PySem.W.OpenLaw} {w : World} {K : PySem.W.Frag} {h : Heap} {mg : Str → Option Value} {fa f1 f2 f3 f4 f5 f6 f7 f8 f9 f10 f11 f12 f13 : Addr} (X : K.In h) (G : h.Ns mainGlobals mg) (hfa : mg "law" = some (.ref fa))
    {od1 an1 od2 an2 od3 an3 od4 an4 od5 an5 od6 an6 od7 an7 od8 an8 od9 an9 od10 an10 od11 an11 od12 an12 od13 an13 : Option Addr} {sl1 sl2 sl3 sl4 sl5 sl6 sl7 sl8 sl9 sl10 sl11 sl12 sl13 : Array (Option Value)} {oc1 kV1 dc1 pm1 cd1 ct1 oc2 kV2 dc2 pm2 cd2 ct2 oc3 kV3 dc3 pm3 cd3 ct3 oc4 kV4 dc4 pm4 cd4 ct4 oc5 kV5 dc5 pm5 cd5 ct5 oc6 kV6 dc6 pm6 cd6 ct6 oc7 kV7 dc7 pm7 cd7 ct7 oc8 kV8 dc8 pm8 cd8 ct8 oc9 kV9 dc9 pm9 cd9 ct9 oc10 kV10 dc10 pm10 cd10 ct10 oc11 kV11 dc11 pm11 cd11 ct11 oc12 kV12 dc12 pm12 cd12 ct12 oc13 kV13 dc13 pm13 cd13 ct13 : Value}
    {tc_MOST_ROW : Tok}
    (a1 : PySem.W.nsIn K mainGlobals "_law_number" = some (some (.ref f1))) (l1 : K.lookup f1 = some ⟨oc1, od1, .func (PySem.W.fnOf "_law_number" "_law_number" (defArgs s_law_number) (defBody s_law_number) (defScope s_law_number) .none kV1 dc1 pm1 an1 cd1 ct1), sl1⟩) (e1 : PySem.W.codeIn K cd1 "_law_number" = true) (k1 : PySem.W.keepIn K (.ref f1) = true)
    (a2 : PySem.W.nsIn K mainGlobals "_law_pairs" = some (some (.ref f2))) (l2 : K.lookup f2 = some ⟨oc2, od2, .func (PySem.W.fnOf "_law_pairs" "_law_pairs" (defArgs s_law_pairs) (defBody s_law_pairs) (defScope s_law_pairs) .none kV2 dc2 pm2 an2 cd2 ct2), sl2⟩) (e2 : PySem.W.codeIn K cd2 "_law_pairs" = true) (k2 : PySem.W.keepIn K (.ref f2) = true)
    (a3 : PySem.W.nsIn K mainGlobals "_law_wiped" = some (some (.ref f3))) (l3 : K.lookup f3 = some ⟨oc3, od3, .func (PySem.W.fnOf "_law_wiped" "_law_wiped" (defArgs s_law_wiped) (defBody s_law_wiped) (defScope s_law_wiped) .none kV3 dc3 pm3 an3 cd3 ct3), sl3⟩) (e3 : PySem.W.codeIn K cd3 "_law_wiped" = true) (k3 : PySem.W.keepIn K (.ref f3) = true)
    (a4 : PySem.W.nsIn K mainGlobals "_law_tally" = some (some (.ref f4))) (l4 : K.lookup f4 = some ⟨oc4, od4, .func (PySem.W.fnOf "_law_tally" "_law_tally" (defArgs s_law_tally) (defBody s_law_tally) (defScope s_law_tally) .none kV4 dc4 pm4 an4 cd4 ct4), sl4⟩) (e4 : PySem.W.codeIn K cd4 "_law_tally" = true) (k4 : PySem.W.keepIn K (.ref f4) = true)
    (a5 : PySem.W.nsIn K mainGlobals "_law_left" = some (some (.ref f5))) (l5 : K.lookup f5 = some ⟨oc5, od5, .func (PySem.W.fnOf "_law_left" "_law_left" (defArgs s_law_left) (defBody s_law_left) (defScope s_law_left) .none kV5 dc5 pm5 an5 cd5 ct5), sl5⟩) (e5 : PySem.W.codeIn K cd5 "_law_left" = true) (k5 : PySem.W.keepIn K (.ref f5) = true)
    (a6 : PySem.W.nsIn K mainGlobals "is_whole" = some (some (.ref f6))) (l6 : K.lookup f6 = some ⟨oc6, od6, .func (PySem.W.fnOf "is_whole" "is_whole" (defArgs s_is_whole) (defBody s_is_whole) (defScope s_is_whole) .none kV6 dc6 pm6 an6 cd6 ct6), sl6⟩) (e6 : PySem.W.codeIn K cd6 "is_whole" = true) (k6 : PySem.W.keepIn K (.ref f6) = true)
    (a7 : PySem.W.nsIn K mainGlobals "asked_many" = some (some (.ref f7))) (l7 : K.lookup f7 = some ⟨oc7, od7, .func (PySem.W.fnOf "asked_many" "asked_many" (defArgs s_asked_many) (defBody s_asked_many) (defScope s_asked_many) .none kV7 dc7 pm7 an7 cd7 ct7), sl7⟩) (e7 : PySem.W.codeIn K cd7 "asked_many" = true) (k7 : PySem.W.keepIn K (.ref f7) = true)
    (a8 : PySem.W.nsIn K mainGlobals "bounds_of" = some (some (.ref f8))) (l8 : K.lookup f8 = some ⟨oc8, od8, .func (PySem.W.fnOf "bounds_of" "bounds_of" (defArgs s_bounds_of) (defBody s_bounds_of) (defScope s_bounds_of) .none kV8 dc8 pm8 an8 cd8 ct8), sl8⟩) (e8 : PySem.W.codeIn K cd8 "bounds_of" = true) (k8 : PySem.W.keepIn K (.ref f8) = true)
    (a9 : PySem.W.nsIn K mainGlobals "row_bounds" = some (some (.ref f9))) (l9 : K.lookup f9 = some ⟨oc9, od9, .func (PySem.W.fnOf "row_bounds" "row_bounds" (defArgs s_row_bounds) (defBody s_row_bounds) (defScope s_row_bounds) .none kV9 dc9 pm9 an9 cd9 ct9), sl9⟩) (e9 : PySem.W.codeIn K cd9 "row_bounds" = true) (k9 : PySem.W.keepIn K (.ref f9) = true)
    (a10 : PySem.W.nsIn K mainGlobals "wiped_of" = some (some (.ref f10))) (l10 : K.lookup f10 = some ⟨oc10, od10, .func (PySem.W.fnOf "wiped_of" "wiped_of" (defArgs s_wiped_of) (defBody s_wiped_of) (defScope s_wiped_of) .none kV10 dc10 pm10 an10 cd10 ct10), sl10⟩) (e10 : PySem.W.codeIn K cd10 "wiped_of" = true) (k10 : PySem.W.keepIn K (.ref f10) = true)
    (a11 : PySem.W.nsIn K mainGlobals "put_in" = some (some (.ref f11))) (l11 : K.lookup f11 = some ⟨oc11, od11, .func (PySem.W.fnOf "put_in" "put_in" (defArgs s_put_in) (defBody s_put_in) (defScope s_put_in) .none kV11 dc11 pm11 an11 cd11 ct11), sl11⟩) (e11 : PySem.W.codeIn K cd11 "put_in" = true) (k11 : PySem.W.keepIn K (.ref f11) = true)
    (a12 : PySem.W.nsIn K mainGlobals "row_led" = some (some (.ref f12))) (l12 : K.lookup f12 = some ⟨oc12, od12, .func (PySem.W.fnOf "row_led" "row_led" (defArgs s_row_led) (defBody s_row_led) (defScope s_row_led) .none kV12 dc12 pm12 an12 cd12 ct12), sl12⟩) (e12 : PySem.W.codeIn K cd12 "row_led" = true) (k12 : PySem.W.keepIn K (.ref f12) = true)
    (a13 : PySem.W.nsIn K mainGlobals "law" = some (some (.ref f13))) (l13 : K.lookup f13 = some ⟨oc13, od13, .func (PySem.W.fnOf "law" "law" (defArgs s_law) (defBody s_law) (defScope s_law) .none kV13 dc13 pm13 an13 cd13 ct13), sl13⟩) (e13 : PySem.W.codeIn K cd13 "law" = true) (k13 : PySem.W.keepIn K (.ref f13) = true)
    (zc_MOST_ROW : PySem.W.nsIn K mainGlobals "MOST_ROW" = some (some (.int 60 tc_MOST_ROW)))
    (z_isinstance : PySem.W.nsIn K mainGlobals "isinstance" = some none)
    (z_int : PySem.W.nsIn K mainGlobals "int" = some none)
    (z_bool : PySem.W.nsIn K mainGlobals "bool" = some none)
    (z_list : PySem.W.nsIn K mainGlobals "list" = some none)
    (z_tuple : PySem.W.nsIn K mainGlobals "tuple" = some none)
    (z_len : PySem.W.nsIn K mainGlobals "len" = some none)
    (z_all : PySem.W.nsIn K mainGlobals "all" = some none)
    (z_any : PySem.W.nsIn K mainGlobals "any" = some none)
    (z_abs : PySem.W.nsIn K mainGlobals "abs" = some none)
    (z_sum : PySem.W.nsIn K mainGlobals "sum" = some none)
    (z_max : PySem.W.nsIn K mainGlobals "max" = some none)
    (z_min : PySem.W.nsIn K mainGlobals "min" = some none)
    (z_sorted : PySem.W.nsIn K mainGlobals "sorted" = some none)
    (z_range : PySem.W.nsIn K mainGlobals "range" = some none)
    (z_enumerate : PySem.W.nsIn K mainGlobals "enumerate" = some none) :
    ∃ fd : FuncData, (∀ (s : Shared) (v : Value), BindsTo s fd ⟨[v], []⟩ [("_law_script", v)]) ∧ ∀ base : Heap, K.In base → base.Ns mainGlobals mg → FnOk l.prog w K mg base CX0 4 fa fd ["_law_script"] (spLaw K) := by
  have e := hfa.symm.trans (PySem.W.mg_of X G a13)
  cases e
  have T : Blt mg := ⟨PySem.W.mg_none_of X G z_isinstance, PySem.W.mg_none_of X G z_int, PySem.W.mg_none_of X G z_bool, PySem.W.mg_none_of X G z_list, PySem.W.mg_none_of X G z_tuple, PySem.W.mg_none_of X G z_len, PySem.W.mg_none_of X G z_all, PySem.W.mg_none_of X G z_any, PySem.W.mg_none_of X G z_abs, PySem.W.mg_none_of X G z_sum, PySem.W.mg_none_of X G z_max, PySem.W.mg_none_of X G z_min, PySem.W.mg_none_of X G z_sorted, PySem.W.mg_none_of X G z_range, PySem.W.mg_none_of X G z_enumerate⟩
  have c_MOST_ROW := PySem.W.mg_of X G zc_MOST_ROW
  have F1 := fun_mk (st := s_law_number) l1 e1 k1
  have D1 : Df K mg "_law_number" s_law_number ["_law_cell", "_law_at", "_law_whole"] f1 _ := ⟨F1, F1.binds (ps := ["_law_cell", "_law_at", "_law_whole"]) fun _ _ _ _ _ _ us hl => match us, hl with | [_, _, _], _ => rfl, PySem.W.mg_of X G a1⟩
  have F2 := fun_mk (st := s_law_pairs) l2 e2 k2
  have D2 : Df K mg "_law_pairs" s_law_pairs ["_law_many"] f2 _ := ⟨F2, F2.binds (ps := ["_law_many"]) fun _ _ _ _ _ _ us hl => match us, hl with | [_], _ => rfl, PySem.W.mg_of X G a2⟩
  have F3 := fun_mk (st := s_law_wiped) l3 e3 k3
  have D3 : Df K mg "_law_wiped" s_law_wiped ["_law_board_here", "_law_pair"] f3 _ := ⟨F3, F3.binds (ps := ["_law_board_here", "_law_pair"]) fun _ _ _ _ _ _ us hl => match us, hl with | [_, _], _ => rfl, PySem.W.mg_of X G a3⟩
  have F4 := fun_mk (st := s_law_tally) l4 e4 k4
  have D4 : Df K mg "_law_tally" s_law_tally ["_law_board_here"] f4 _ := ⟨F4, F4.binds (ps := ["_law_board_here"]) fun _ _ _ _ _ _ us hl => match us, hl with | [_], _ => rfl, PySem.W.mg_of X G a4⟩
  have F5 := fun_mk (st := s_law_left) l5 e5 k5
  have D5 : Df K mg "_law_left" s_law_left ["_law_board_here", "_law_pairs_here"] f5 _ := ⟨F5, F5.binds (ps := ["_law_board_here", "_law_pairs_here"]) fun _ _ _ _ _ _ us hl => match us, hl with | [_, _], _ => rfl, PySem.W.mg_of X G a5⟩
  have F6 := fun_mk (st := s_is_whole) l6 e6 k6
  have D6 : Df K mg "is_whole" s_is_whole ["thing"] f6 _ := ⟨F6, F6.binds (ps := ["thing"]) fun _ _ _ _ _ _ us hl => match us, hl with | [_], _ => rfl, PySem.W.mg_of X G a6⟩
  have F7 := fun_mk (st := s_asked_many) l7 e7 k7
  have D7 : Df K mg "asked_many" s_asked_many ["many"] f7 _ := ⟨F7, F7.binds (ps := ["many"]) fun _ _ _ _ _ _ us hl => match us, hl with | [_], _ => rfl, PySem.W.mg_of X G a7⟩
  have F8 := fun_mk (st := s_bounds_of) l8 e8 k8
  have D8 : Df K mg "bounds_of" s_bounds_of ["many"] f8 _ := ⟨F8, F8.binds (ps := ["many"]) fun _ _ _ _ _ _ us hl => match us, hl with | [_], _ => rfl, PySem.W.mg_of X G a8⟩
  have F9 := fun_mk (st := s_row_bounds) l9 e9 k9
  have D9 : Df K mg "row_bounds" s_row_bounds ["many"] f9 _ := ⟨F9, F9.binds (ps := ["many"]) fun _ _ _ _ _ _ us hl => match us, hl with | [_], _ => rfl, PySem.W.mg_of X G a9⟩
  have F10 := fun_mk (st := s_wiped_of) l10 e10 k10
  have D10 : Df K mg "wiped_of" s_wiped_of ["board", "wiping"] f10 _ := ⟨F10, F10.binds (ps := ["board", "wiping"]) fun _ _ _ _ _ _ us hl => match us, hl with | [_, _], _ => rfl, PySem.W.mg_of X G a10⟩
  have F11 := fun_mk (st := s_put_in) l11 e11 k11
  have D11 : Df K mg "put_in" s_put_in ["board", "one", "other", "found"] f11 _ := ⟨F11, F11.binds (ps := ["board", "one", "other", "found"]) fun _ _ _ _ _ _ us hl => match us, hl with | [_, _, _, _], _ => rfl, PySem.W.mg_of X G a11⟩
  have F12 := fun_mk (st := s_row_led) l12 e12 k12
  have D12 : Df K mg "row_led" s_row_led ["many", "last"] f12 _ := ⟨F12, F12.binds (ps := ["many", "last"]) fun _ _ _ _ _ _ us hl => match us, hl with | [_, _], _ => rfl, PySem.W.mg_of X G a12⟩
  have F13 := fun_mk (st := s_law) l13 e13 k13
  have D13 : Df K mg "law" s_law ["_law_script"] fa _ := ⟨F13, F13.binds (ps := ["_law_script"]) fun _ _ _ _ _ _ us hl => match us, hl with | [_], _ => rfl, PySem.W.mg_of X G a13⟩
  refine ⟨PySem.W.fnOf "law" "law" (defArgs s_law) (defBody s_law) (defScope s_law) .none kV13 dc13 pm13 an13 cd13 ct13, fun s v => .of_eq rfl, fun base _ _ => ?_⟩
  have o_law_number : Ok l.prog w K mg base CX0 1 "_law_number" s_law_number ["_law_cell", "_law_at", "_law_whole"] spLawNumber f1 _ := ⟨D1, ok_law_number D1 T ⟩
  have o_law_pairs : Ok l.prog w K mg base CX0 1 "_law_pairs" s_law_pairs ["_law_many"] spLawPairs f2 _ := ⟨D2, ok_law_pairs D2 T ⟩
  have o_law_wiped : Ok l.prog w K mg base CX0 1 "_law_wiped" s_law_wiped ["_law_board_here", "_law_pair"] spWipedOf f3 _ := ⟨D3, ok_law_wiped D3 T ⟩
  have o_law_tally : Ok l.prog w K mg base CX0 2 "_law_tally" s_law_tally ["_law_board_here"] spLawTally f4 _ := ⟨D4, ok_law_tally D4 T o_law_pairs o_law_wiped⟩
  have o_law_left : Ok l.prog w K mg base CX0 2 "_law_left" s_law_left ["_law_board_here", "_law_pairs_here"] spLeft f5 _ := ⟨D5, ok_law_left D5 T o_law_wiped⟩
  have o_is_whole : Ok l.prog w K mg base CX0 1 "is_whole" s_is_whole ["thing"] (spIsWhole K) f6 _ := ⟨D6, ok_is_whole D6 T ⟩
  have o_asked_many : Ok l.prog w K mg base CX0 2 "asked_many" s_asked_many ["many"] spAskedMany f7 _ := ⟨D7, ok_asked_many D7 T o_is_whole⟩
  have o_bounds_of : Ok l.prog w K mg base CX0 1 "bounds_of" s_bounds_of ["many"] spBounds f8 _ := ⟨D8, ok_bounds_of D8 T ⟩
  have o_row_bounds : Ok l.prog w K mg base CX0 3 "row_bounds" s_row_bounds ["many"] spBounds f9 _ := ⟨D9, ok_row_bounds D9 T o_asked_many o_bounds_of⟩
  have o_wiped_of : Ok l.prog w K mg base CX0 1 "wiped_of" s_wiped_of ["board", "wiping"] spWipedOf f10 _ := ⟨D10, ok_wiped_of D10 T ⟩
  have o_put_in : Ok l.prog w K mg base CX0 2 "put_in" s_put_in ["board", "one", "other", "found"] spPutIn f11 _ := ⟨D11, ok_put_in D11 T o_wiped_of⟩
  have o_row_led : Ok l.prog w K mg base CX0 3 "row_led" s_row_led ["many", "last"] spRowLed f12 _ := ⟨D12, ok_row_led D12 T c_MOST_ROW o_asked_many o_is_whole o_bounds_of o_put_in⟩
  exact ok_law D13 T o_law_number o_law_tally o_law_left o_row_bounds o_row_led
end Lw
open PySem PySem.W PyProof.Rows
set_option maxHeartbeats 0 in
theorem PySem.Challenge.cw_lastleft_k05_whole_rows_holds : PySem.Challenge.rw_lastleft_k05_whole_rows.Holds := by
  w_on; o_law; k_head; (case hw => w_witness2)
  k_fill
  refine L2.walk_ofB (l := PySem.Challenge.rw_lastleft_k05_whole_rows) (n := 63) (k := 4) (x := "_law_script") (CX := fun _ => L2.CX0) (sp := fun w => Lw.spLaw _) rfl (by decide) rfl ⟨rfl, by decide, by decide⟩ (fun w h Y => PySem.W.kIn_of Y) ?F (fun _ _ a ns hl hb _ hS => ⟨a, ns, rfl, ⟨hS, hl, hb⟩, fun _ _ => rfl⟩) (fun _ _ _ _ _ h => h)
  case F =>
    intro w mg fa h KX G hmg
    refine' Lw.all_mk KX G hmg ?a1 ?l1 ?e1 ?k1 ?a2 ?l2 ?e2 ?k2 ?a3 ?l3 ?e3 ?k3 ?a4 ?l4 ?e4 ?k4 ?a5 ?l5 ?e5 ?k5 ?a6 ?l6 ?e6 ?k6 ?a7 ?l7 ?e7 ?k7 ?a8 ?l8 ?e8 ?k8 ?a9 ?l9 ?e9 ?k9 ?a10 ?l10 ?e10 ?k10 ?a11 ?l11 ?e11 ?k11 ?a12 ?l12 ?e12 ?k12 ?a13 ?l13 ?e13 ?k13 ?zc_MOST_ROW ?z_isinstance ?z_int ?z_bool ?z_list ?z_tuple ?z_len ?z_all ?z_any ?z_abs ?z_sum ?z_max ?z_min ?z_sorted ?z_range ?z_enumerate
    (case a1 => k_is); (case l1 => k_is); (case e1 => k_is); (case k1 => k_is); (case a2 => k_is); (case l2 => k_is); (case e2 => k_is); (case k2 => k_is)
    (case a3 => k_is); (case l3 => k_is); (case e3 => k_is); (case k3 => k_is); (case a4 => k_is); (case l4 => k_is); (case e4 => k_is); (case k4 => k_is)
    (case a5 => k_is); (case l5 => k_is); (case e5 => k_is); (case k5 => k_is); (case a6 => k_is); (case l6 => k_is); (case e6 => k_is); (case k6 => k_is)
    (case a7 => k_is); (case l7 => k_is); (case e7 => k_is); (case k7 => k_is); (case a8 => k_is); (case l8 => k_is); (case e8 => k_is); (case k8 => k_is)
    (case a9 => k_is); (case l9 => k_is); (case e9 => k_is); (case k9 => k_is); (case a10 => k_is); (case l10 => k_is); (case e10 => k_is); (case k10 => k_is)
    (case a11 => k_is); (case l11 => k_is); (case e11 => k_is); (case k11 => k_is); (case a12 => k_is); (case l12 => k_is); (case e12 => k_is); (case k12 => k_is)
    (case a13 => k_is); (case l13 => k_is); (case e13 => k_is); (case k13 => k_is); (case zc_MOST_ROW => k_is); (case z_isinstance => k_is); (case z_int => k_is); (case z_bool => k_is)
    (case z_list => k_is); (case z_tuple => k_is); (case z_len => k_is); (case z_all => k_is); (case z_any => k_is); (case z_abs => k_is); (case z_sum => k_is); (case z_max => k_is)
    (case z_min => k_is); (case z_sorted => k_is); (case z_range => k_is); (case z_enumerate => k_is)
