import PyProof.Rows.All
import Wide.All
import OpenK.AllK
import Wide.FinOn
import HandS.ForMost
import HandS.Walk
import HandS.Deep
import HandS.IsInst
import HandS.TupAny
import HandS.Zip
import KE.GoesNew
import HandS.Style
import HandS.SortRule
import KE.SortData
import KE.KDictPairs
import HandS.Words
import PySem.Challenge.RW_traitsure_k41_whole_choices
set_option Elab.async false
set_option linter.all false
set_option maxRecDepth 100000
set_option maxHeartbeats 2000000
/-! A layer of immutable data over the readings: what stands still (B), what is tracked (H), the names' data (r). -/
namespace Ts
open PySem PySem.Spec PyProof.Rows L2

/-! ### data stand still -/
theorem sqT_mono {K : PySem.W.Frag} {H H' : Hp} {a : Addr} {xs : List V} (e : Same H H') (h : SqT K H a xs) : SqT K H' a xs := by
  rcases h with (h | ⟨o, h⟩) | h
  · exact .inl (.inl (e _ _ h))
  · exact .inl (.inr ⟨o, e _ _ h⟩)
  · exact .inr h
mutual
theorem dp_mono {K : PySem.W.Frag} {H H' : Hp} (e : Same H H') : ∀ (d : PyData) (v : V), Dp K H v d → Dp K H' v d
  | .none, _, h => by cases h; exact .non
  | .bool b, _, h => by cases h; exact .bl b
  | .int i, _, h => by cases h; exact .int i
  | .str x, _, h => by cases h; exact .str x
  | .list ds, _, h => by
    cases h with
    | lst hs ha => exact .lst (e.seq hs) (dpAll_mono e ds _ ha)
  | .tuple ds, _, h => by
    cases h with
    | tup hs ha => exact .tup (sqT_mono e hs) (dpAll_mono e ds _ ha)
  | .dict _, _, h => by cases h
theorem dpAll_mono {K : PySem.W.Frag} {H H' : Hp} (e : Same H H') : ∀ (ds : List PyData) (vs : List V), DpAll K H vs ds → DpAll K H' vs ds
  | [], _, h => by cases h; exact .nil
  | d :: ds, _, h => by
    cases h with
    | cons h1 h2 => exact .cons (dp_mono e d _ h1) (dpAll_mono e ds _ h2)
end
theorem Same.new {H : Hp} {p : Addr} {o : HO} (h : H p = none) : Same H (upd H p o) := fun b u q => by
  rw [upd_ne (ne_of_none q h)]
  exact q
theorem dpAll_len {K : PySem.W.Frag} {H : Hp} : ∀ {ds : List PyData} {vs : List V}, DpAll K H vs ds → vs.length = ds.length
  | [], _, h => by cases h; rfl
  | d :: ds, _, h => by
    cases h with
    | cons h1 h2 => rw [List.length_cons, List.length_cons, dpAll_len h2]
theorem dpAll_get {K : PySem.W.Frag} {H : Hp} : ∀ {ds : List PyData} {vs : List V} {i : Nat} {d : PyData}, DpAll K H vs ds → ds[i]? = some d → ∃ v, vs[i]? = some v ∧ Dp K H v d
  | [], _, _, _, _, e => by simp at e
  | d :: ds, _, 0, x, h, e => by
    cases h with
    | cons h1 h2 =>
      have e' : d = x := by simpa using e
      subst e'
      exact ⟨_, rfl, h1⟩
  | d :: ds, _, i + 1, x, h, e => by
    cases h with
    | cons h1 h2 =>
      obtain ⟨v, q1, q2⟩ := dpAll_get (i := i) (d := x) h2 (by simpa using e)
      exact ⟨v, by simpa using q1, q2⟩
theorem dpAll_get' {K : PySem.W.Frag} {H : Hp} : ∀ {ds : List PyData} {vs : List V} {i : Nat} {v : V}, DpAll K H vs ds → vs[i]? = some v → ∃ d, ds[i]? = some d ∧ Dp K H v d
  | [], _, _, _, h, e => by cases h; simp at e
  | d :: ds, _, 0, x, h, e => by
    cases h with
    | cons h1 h2 =>
      have e' := Option.some.inj e
      subst e'
      exact ⟨_, rfl, h1⟩
  | d :: ds, _, i + 1, x, h, e => by
    cases h with
    | cons h1 h2 =>
      obtain ⟨v, q1, q2⟩ := dpAll_get' (i := i) (v := x) h2 (by simpa using e)
      exact ⟨v, by simpa using q1, q2⟩
theorem dpAll_app {K : PySem.W.Frag} {H : Hp} : ∀ {ds es : List PyData} {vs ws : List V}, DpAll K H vs ds → DpAll K H ws es → DpAll K H (vs ++ ws) (ds ++ es)
  | [], _, _, _, h, h' => by cases h; exact h'
  | d :: ds, _, _, _, h, h' => by
    cases h with
    | cons h1 h2 => exact .cons h1 (dpAll_app h2 h')
theorem dpAll_take {K : PySem.W.Frag} {H : Hp} : ∀ {ds : List PyData} {vs : List V} (n : Nat), DpAll K H vs ds → DpAll K H (vs.take n) (ds.take n)
  | _, _, 0, h => by rw [List.take_zero, List.take_zero]; exact .nil
  | [], _, n + 1, h => by cases h; exact .nil
  | d :: ds, _, n + 1, h => by
    cases h with
    | cons h1 h2 => exact .cons h1 (dpAll_take n h2)
theorem dpAll_drop {K : PySem.W.Frag} {H : Hp} : ∀ {ds : List PyData} {vs : List V} (n : Nat), DpAll K H vs ds → DpAll K H (vs.drop n) (ds.drop n)
  | _, _, 0, h => h
  | [], _, n + 1, h => by cases h; exact .nil
  | d :: ds, _, n + 1, h => by
    cases h with
    | cons h1 h2 => exact dpAll_drop n h2
theorem dpAll_rev {K : PySem.W.Frag} {H : Hp} : ∀ {ds : List PyData} {vs : List V}, DpAll K H vs ds → DpAll K H vs.reverse ds.reverse
  | [], _, h => by cases h; exact .nil
  | d :: ds, _, h => by
    cases h with
    | cons h1 h2 =>
      rw [List.reverse_cons, List.reverse_cons]
      exact dpAll_app (dpAll_rev h2) (.cons h1 .nil)

/-! ### the state: what stands still (B) within what is tracked (H) -/
structure Grow (B H B' H' : Hp) : Prop where
  bb : Same B B'
  bh : Same B' H'
  hh : Same H H'
  new : ∀ a, H a ≠ none → B' a = B a
theorem Grow.refl {B H : Hp} (h : Same B H) : Grow B H B H := ⟨Same.refl _, h, Same.refl _, fun _ _ => rfl⟩
theorem Grow.trans {B H B1 H1 B2 H2 : Hp} (a : Grow B H B1 H1) (b : Grow B1 H1 B2 H2) : Grow B H B2 H2 :=
  ⟨a.bb.trans b.bb, b.bh, a.hh.trans b.hh, fun x hx => by
    obtain ⟨o, ho⟩ := Option.ne_none_iff_exists'.mp hx
    rw [b.new x (by rw [a.hh x o ho]; simp), a.new x hx]⟩
/-- a new immutable object -/
theorem Grow.lay {B H : Hp} {p : Addr} {o : HO} (h : Same B H) (hp : H p = none) : Grow B H (upd B p o) (upd H p o) := by
  have bp : B p = none := h.free hp
  refine ⟨Same.new bp, fun b u q => ?_, Same.new hp, fun a ha => ?_⟩
  · by_cases e : b = p
    · subst e
      rw [upd_same] at q ⊢
      exact q
    · rw [upd_ne e] at q ⊢
      exact h b u q
  · rw [upd_ne (fun e => ha (by rw [e]; exact hp))]
/-- a new object that stays outside -/
theorem Grow.out {B H : Hp} {p : Addr} {o : HO} (h : Same B H) (hp : H p = none) : Grow B H B (upd H p o) :=
  ⟨Same.refl _, h.trans (Same.new hp), Same.new hp, fun _ _ => rfl⟩
/-- what stood outside now stands still -/
theorem Grow.freeze {B H B' H' : Hp} {p : Addr} {o : HO} (g : Grow B H B' H') (hp : H p = none) (hb : B' p = none) (h' : H' p = some o) : Grow B H (upd B' p o) H' := by
  have bp : B p = none := by
    cases e : B p with
    | none => rfl
    | some u => rw [g.bb p u e] at hb; cases hb
  refine ⟨g.bb.trans (Same.new hb), fun b u q => ?_, g.hh, fun a ha => ?_⟩
  · by_cases e : b = p
    · subst e
      rw [upd_same] at q
      rw [h']
      exact q
    · rw [upd_ne e] at q
      exact g.bh b u q
  · rw [upd_ne (fun e => ha (by rw [e]; exact hp))]
    exact g.new a ha

/-! ### the names' data -/
inductive Ent where
  | d (x : PyData)
  /-- a list of this def's own, which it alone knows -/
  | own (ds : List PyData)
  | dct (kvs : List (Key × V))
  /-- a world: its first part's object is known -/
  | wld (x : PyData)
  /-- a list of plain tuples -/
  | lw (ls : List (List PyData))
  /-- the draws' list: its first number is at most n -/
  | twn (n : Nat)
abbrev PEnv := List (Option Ent)

structure Fx where
  He : Hp
  Be : Hp
  tw : Option Addr
  m : Nat
def TwOk (m n : Nat) (ns : List Int) : Prop := ∃ z r, ns = z :: r ∧ r.length = m ∧ 0 ≤ z ∧ z ≤ (n : Int)
def IsDct (B : Hp) (v : V) (kvs : List (Key × V)) : Prop := ∃ p, v = .ref p ∧ B p = some (.dK kvs)
def PlainT (K : PySem.W.Frag) (B : Hp) (b : Addr) (ds : List PyData) : Prop := ∃ o ys, B b = some (.frz o (.tup ys)) ∧ o.dict = none ∧ o.cls = .type "tuple" ∧ DpAll K B ys ds
def PlainW (K : PySem.W.Frag) (B : Hp) (v : V) (x : PyData) : Prop := ∃ a b xs ds y, x = .tuple (.tuple ds :: y) ∧ v = .ref a ∧ SqT K B a (.ref b :: xs) ∧ PlainT K B b ds
def LwOk (K : PySem.W.Frag) (B : Hp) (v : V) (ls : List (List PyData)) : Prop := ∃ q xs, v = .ref q ∧ B q = some (.lst xs) ∧ xs.length = ls.length ∧ ∀ (i : Nat) (l : List PyData), ls[i]? = some l → ∃ b, xs[i]? = some (.ref b) ∧ PlainT K B b l
def EntOk (K : PySem.W.Frag) (F : Fx) (B H : Hp) (v : V) : Ent → Prop
  | .d x => Dp K B v x
  | .own ds => ∃ p xs, v = .ref p ∧ B p = none ∧ F.He p = none ∧ F.tw ≠ some p ∧ H p = some (.lst xs) ∧ DpAll K B xs ds
  | .dct kvs => IsDct B v kvs
  | .wld x => Dp K B v x ∧ PlainW K B v x
  | .lw ls => LwOk K B v ls
  | .twn n => ∃ p ns, v = .ref p ∧ B p = none ∧ F.tw = some p ∧ H p = some (.lst (ns.map V.int)) ∧ TwOk F.m n ns
structure EnvOk (K : PySem.W.Frag) (F : Fx) (B H : Hp) (s : L2.St) (r : PEnv) : Prop where
  bh : Same B H
  bb : Same F.Be B
  eh : Same F.Be F.He
  new : ∀ a, F.He a ≠ none → B a = F.Be a
  keep : ∀ a o, F.He a = some o → F.tw ≠ some a → H a = some o
  twin : ∀ p, F.tw = some p → B p = none ∧ H p ≠ none
  len : List.length s = List.length r
  ent : ∀ (i : Nat) (e : Ent), r[i]? = some (some e) → ∃ v, s[i]? = some (some v) ∧ EntOk K F B H v e
  apart : ∀ (i j : Nat) (di dj : List PyData) (p : Addr), r[i]? = some (some (.own di)) → r[j]? = some (some (.own dj)) → s[i]? = some (some (.ref p)) → s[j]? = some (some (.ref p)) → i = j

section
variable {K : PySem.W.Frag} {F : Fx} {B H B' H' : Hp} {s : L2.St} {r : PEnv} {v : V}
theorem IsDct.mono {kvs : List (Key × V)} (e : Same B B') (h : IsDct B v kvs) : IsDct B' v kvs := let ⟨p, a, b⟩ := h; ⟨p, a, e _ _ b⟩
theorem PlainT.mono {b : Addr} {ds : List PyData} (e : Same B B') (h : PlainT K B b ds) : PlainT K B' b ds := let ⟨o, ys, a, c, d, f⟩ := h; ⟨o, ys, e _ _ a, c, d, dpAll_mono e _ _ f⟩
theorem PlainW.mono {x : PyData} (e : Same B B') (h : PlainW K B v x) : PlainW K B' v x := let ⟨a, b, xs, ds, y, z, c, d, p⟩ := h; ⟨a, b, xs, ds, y, z, c, sqT_mono e d, p.mono e⟩
theorem LwOk.mono {ls : List (List PyData)} (e : Same B B') (h : LwOk K B v ls) : LwOk K B' v ls := let ⟨q, xs, a, b, c, d⟩ := h; ⟨q, xs, a, e _ _ b, c, fun i l z => let ⟨b, x, y⟩ := d i l z; ⟨b, x, y.mono e⟩⟩
theorem EntOk.grow {e : Ent} (g : Grow B H B' H') (h : EntOk K F B H v e) : EntOk K F B' H' v e := by
  cases e with
  | d x => exact dp_mono g.bb x v h
  | own ds =>
    obtain ⟨p, xs, a, b, c, t, d, e⟩ := h
    exact ⟨p, xs, a, by rw [g.new p (by rw [d]; simp)]; exact b, c, t, g.hh _ _ d, dpAll_mono g.bb _ _ e⟩
  | dct kvs => exact IsDct.mono g.bb h
  | wld x => exact ⟨dp_mono g.bb x v h.1, h.2.mono g.bb⟩
  | lw ls => exact LwOk.mono g.bb h
  | twn n =>
    obtain ⟨p, ns, a, b, c, d, e⟩ := h
    exact ⟨p, ns, a, by rw [g.new p (by rw [d]; simp)]; exact b, c, g.hh _ _ d, e⟩
theorem EnvOk.grow (h : EnvOk K F B H s r) (g : Grow B H B' H') : EnvOk K F B' H' s r where
  bh := g.bh
  bb := h.bb.trans g.bb
  eh := h.eh
  new := fun a ha => by
    have q : H a ≠ none ∨ F.tw = some a := by
      by_cases t : F.tw = some a
      · exact .inr t
      · obtain ⟨o, ho⟩ := Option.ne_none_iff_exists'.mp ha
        exact .inl (by rw [h.keep a o ho t]; simp)
    rcases q with q | q
    · rw [g.new a q, h.new a ha]
    · rw [g.new a (h.twin a q).2, h.new a ha]
  keep := fun a o e t => g.hh _ _ (h.keep a o e t)
  twin := fun p e => by
    obtain ⟨a, b⟩ := h.twin p e
    refine ⟨by rw [g.new p b]; exact a, ?_⟩
    obtain ⟨o, ho⟩ := Option.ne_none_iff_exists'.mp b
    rw [g.hh p o ho]
    simp
  len := h.len
  ent := fun i e q => let ⟨v, a, b⟩ := h.ent i e q; ⟨v, a, b.grow g⟩
  apart := h.apart
theorem EnvOk.get (h : EnvOk K F B H s r) {i : Nat} {x : PyData} (e : r[i]? = some (some (.d x))) : ∃ v, s[i]? = some (some v) ∧ Dp K B v x := h.ent i _ e
theorem get_set {r : PEnv} {i j : Nat} {e e' : Ent} (h : (r.set i (some e))[j]? = some (some e')) : (j = i ∧ e = e' ∧ i < r.length) ∨ (j ≠ i ∧ r[j]? = some (some e')) := by
  by_cases q : j = i
  · subst q
    by_cases hl : j < r.length
    · rw [List.getElem?_set_self hl] at h
      injection h with h
      injection h with h
      exact .inl ⟨rfl, h, hl⟩
    · rw [List.getElem?_eq_none (by rw [List.length_set]; omega)] at h
      cases h
  · rw [List.getElem?_set_ne (Ne.symm q)] at h
    exact .inr ⟨q, h⟩
/-- a name is set -/
theorem EnvOk.set (h : EnvOk K F B H s r) (i : Nat) {e : Ent} (he : EntOk K F B H v e)
    (hf : ∀ ds p, e = .own ds → v = .ref p → ∀ (j : Nat) (dj : List PyData), j ≠ i → r[j]? = some (some (.own dj)) → s[j]? = some (some (.ref p)) → False) : EnvOk K F B H (s.set i (some v)) (r.set i (some e)) where
  bh := h.bh
  bb := h.bb
  eh := h.eh
  new := h.new
  keep := h.keep
  twin := h.twin
  len := by rw [List.length_set, List.length_set]; exact h.len
  ent := fun j e' q => by
    rcases get_set q with ⟨rfl, rfl, hl⟩ | ⟨hj, q⟩
    · exact ⟨v, by rw [List.getElem?_set_self (by rw [h.len]; exact hl)], he⟩
    · obtain ⟨u, a, b⟩ := h.ent j e' q
      exact ⟨u, by rw [List.getElem?_set_ne (Ne.symm hj)]; exact a, b⟩
  apart := fun a b da db p qa qb sa sb => by
    rcases get_set qa with ⟨rfl, ea, hl⟩ | ⟨ha, qa'⟩
    · rcases get_set qb with ⟨rfl, eb, _⟩ | ⟨hb, qb'⟩
      · rfl
      · rw [List.getElem?_set_self (by rw [h.len]; exact hl)] at sa
        rw [List.getElem?_set_ne (Ne.symm hb)] at sb
        injection sa with sa
        injection sa with sa
        exact (hf da p ea sa b db hb qb' sb).elim
    · rcases get_set qb with ⟨rfl, eb, hl⟩ | ⟨hb, qb'⟩
      · rw [List.getElem?_set_self (by rw [h.len]; exact hl)] at sb
        rw [List.getElem?_set_ne (Ne.symm ha)] at sa
        injection sb with sb
        injection sb with sb
        exact (hf db p eb sb a da ha qa' sa).elim
      · rw [List.getElem?_set_ne (Ne.symm ha)] at sa
        rw [List.getElem?_set_ne (Ne.symm hb)] at sb
        exact h.apart a b da db p qa' qb' sa sb
theorem EnvOk.setD (h : EnvOk K F B H s r) (i : Nat) {x : PyData} (he : Dp K B v x) : EnvOk K F B H (s.set i (some v)) (r.set i (some (.d x))) :=
  h.set i (e := .d x) he fun ds p e => by cases e
end

/-! ### less is known -/
def EntLe : Option Ent → Option Ent → Prop
  | none, _ => True
  | some (.twn n), some (.twn m) => m ≤ n
  | some e, x => x = some e
inductive Le : PEnv → PEnv → Prop
  | nil : Le [] []
  | cons {a b : Option Ent} {r s : PEnv} : EntLe a b → Le r s → Le (a :: r) (b :: s)
theorem Le.len {r s : PEnv} (h : Le r s) : r.length = s.length := by
  induction h with
  | nil => rfl
  | cons _ _ ih => rw [List.length_cons, List.length_cons, ih]
theorem EntLe.refl : ∀ e, EntLe e e
  | none => True.intro
  | some (.twn n) => Nat.le_refl n
  | some (.d x) => rfl
  | some (.own x) => rfl
  | some (.dct x) => rfl
  | some (.wld x) => rfl
  | some (.lw x) => rfl
theorem Le.refl : ∀ r : PEnv, Le r r
  | [] => .nil
  | e :: r => .cons (EntLe.refl e) (Le.refl r)
theorem Le.keep {e : Option Ent} {r s : PEnv} (h : Le r s) : Le (e :: r) (e :: s) := .cons (EntLe.refl e) h
theorem Le.drop {e : Option Ent} {r s : PEnv} (h : Le r s) : Le (none :: r) (e :: s) := .cons True.intro h
theorem Le.twn {n m : Nat} {r s : PEnv} (hn : m ≤ n) (h : Le r s) : Le (some (.twn n) :: r) (some (.twn m) :: s) := .cons hn h
theorem Le.get {r s : PEnv} (h : Le r s) : ∀ {i : Nat} {e : Ent}, r[i]? = some (some e) → ∃ e', s[i]? = some (some e') ∧ (e' = e ∨ ∃ n m, e = .twn n ∧ e' = .twn m ∧ m ≤ n) := by
  induction h with
  | nil => intro i e q; simp at q
  | @cons a b r s h1 h2 ih =>
    intro i e q
    cases i with
    | zero =>
      have q' : a = some e := by simpa using q
      subst q'
      cases e with
      | twn n =>
        cases b with
        | none => cases (show (none : Option Ent) = some (Ent.twn n) from h1)
        | some b =>
          cases b with
          | twn m => exact ⟨.twn m, rfl, .inr ⟨n, m, rfl, rfl, h1⟩⟩
          | d x => cases (show some (Ent.d x) = some (Ent.twn n) from h1)
          | own x => cases (show some (Ent.own x) = some (Ent.twn n) from h1)
          | dct x => cases (show some (Ent.dct x) = some (Ent.twn n) from h1)
          | wld x => cases (show some (Ent.wld x) = some (Ent.twn n) from h1)
          | lw x => cases (show some (Ent.lw x) = some (Ent.twn n) from h1)
      | d x => exact ⟨.d x, congrArg some (show b = some (Ent.d x) from h1), .inl rfl⟩
      | own x => exact ⟨.own x, congrArg some (show b = some (Ent.own x) from h1), .inl rfl⟩
      | dct x => exact ⟨.dct x, congrArg some (show b = some (Ent.dct x) from h1), .inl rfl⟩
      | wld x => exact ⟨.wld x, congrArg some (show b = some (Ent.wld x) from h1), .inl rfl⟩
      | lw x => exact ⟨.lw x, congrArg some (show b = some (Ent.lw x) from h1), .inl rfl⟩
    | succ i =>
      obtain ⟨e', a1, a2⟩ := ih (i := i) (e := e) (by simpa using q)
      exact ⟨e', by simpa using a1, a2⟩
theorem EnvOk.weak {K : PySem.W.Frag} {F : Fx} {B H : Hp} {s : L2.St} {r r' : PEnv} (h : EnvOk K F B H s r) (l : Le r' r) : EnvOk K F B H s r' where
  bh := h.bh
  bb := h.bb
  eh := h.eh
  new := h.new
  keep := h.keep
  twin := h.twin
  len := h.len.trans l.len.symm
  ent := fun i e q => by
    obtain ⟨e', a, b⟩ := l.get q
    obtain ⟨v, c, d⟩ := h.ent i e' a
    refine ⟨v, c, ?_⟩
    rcases b with b | ⟨n, m, rfl, rfl, hm⟩
    · rw [← b]; exact d
    · obtain ⟨p, ns, a1, a2, a3, a4, z, r, a5, a6, a7, a8⟩ := d
      exact ⟨p, ns, a1, a2, a3, a4, z, r, a5, a6, a7, by omega⟩
  apart := fun i j di dj p qi qj si sj => by
    obtain ⟨ei, a1, b1⟩ := l.get qi
    obtain ⟨ej, a2, b2⟩ := l.get qj
    rcases b1 with b1 | ⟨n, m, b1, _⟩
    · rcases b2 with b2 | ⟨n, m, b2, _⟩
      · rw [b1] at a1
        rw [b2] at a2
        exact h.apart i j di dj p a1 a2 si sj
      · cases b2
    · cases b1
end Ts
set_option Elab.async false
set_option linter.all false
set_option maxRecDepth 100000
set_option maxHeartbeats 2000000
/-! The judgements over names' data, and their rules. -/
namespace Ts
open PySem PySem.Spec PyProof.Rows L2

/-! ### walks over data: G tells when it goes -/
structure WalkD (K : PySem.W.Frag) (J : It) (ds : List PyData) (G : Hp → Hp → Prop) : Prop where
  goes : ∀ i B H, i < ds.length → G B H → J.go i H
  stops : ∀ B H, G B H → J.stop ds.length H
  yields : ∀ i B H x H', i < ds.length → G B H → Same B H → J.yld i H x H' → ∃ B' d, Grow B H B' H' ∧ ds[i]? = some d ∧ Dp K B' x d
/-- it stands as long as data stand still -/
def StabS (G : Hp → Hp → Prop) : Prop := ∀ B H B' H', G B H → Same B B' → Same B' H' → G B' H'

section
variable (K : PySem.W.Frag) (F : Fx)
def RunV (te : TE) (r : PEnv) (P : Hp → V → Prop) : Prop := ∀ s B H, EnvOk K F B H s r → ∀ Q : VK, (∀ v B' H', Grow B H B' H' → P B' v → Q v H') → te s H Q
def RunE (te : TE) (r : PEnv) (d : PyData) : Prop := ∀ s B H, EnvOk K F B H s r → ∀ Q : VK, (∀ v B' H', Grow B H B' H' → Dp K B' v d → Q v H') → te s H Q
def RunT (tt : TT) (r : PEnv) (b : Bool) : Prop := ∀ s B H, EnvOk K F B H s r → ∀ Q : Bool → Hp → Prop, (∀ B' H', Grow B H B' H' → Q b H') → tt s H Q
def RunA (ta : TA) (r : PEnv) (ds : List PyData) : Prop := ∀ s B H, EnvOk K F B H s r → ∀ Q : List V → Hp → Prop, (∀ vs B' H', Grow B H B' H' → DpAll K B' vs ds → Q vs H') → ta s H Q
/-- a new list -/
def RunL (te : TE) (r : PEnv) (ds : List PyData) : Prop := ∀ s B H, EnvOk K F B H s r → ∀ Q : VK, (∀ p xs B' H', Grow B H B' H' → H p = none → B' p = none → H' p = some (.lst xs) → DpAll K B' xs ds → Q (.ref p) H') → te s H Q
/-- a tracked list, to be read at once -/
def RunR (te : TE) (r : PEnv) (ds : List PyData) : Prop := ∀ s B H, EnvOk K F B H s r → ∀ Q : VK, (∀ p xs B' H', Grow B H B' H' → H' p = some (.lst xs) → DpAll K B' xs ds → Q (.ref p) H') → te s H Q
/-- what is walked -/
def RunI (wi : TI) (r : PEnv) (ds : List PyData) : Prop := ∀ s B H, EnvOk K F B H s r → ∀ R : It → Hp → Prop, (∀ J G B' H', Grow B H B' H' → G B' H' → StabS G → WalkD K J ds G → R J H') → wi s H R
/-- a target -/
def RunG (vs : List Nat) (g : TG) (d : PyData) (r r' : PEnv) : Prop := ∀ s B H v, EnvOk K F B H s r → Dp K B v d → ∀ Q : L2.St → Hp → Prop, (∀ s', EnvOk K F B H s' r' → wipe s' vs = wipe s vs → Q s' H) → g v s H Q
end
def IsLst (K : PySem.W.Frag) (ds : List PyData) (B : Hp) (v : V) : Prop := ∃ p xs, v = .ref p ∧ B p = some (.lst xs) ∧ DpAll K B xs ds
theorem IsLst.dp {K : PySem.W.Frag} {ds : List PyData} {B : Hp} {v : V} (h : IsLst K ds B v) : Dp K B v (.list ds) := by
  obtain ⟨p, xs, rfl, a, b⟩ := h
  exact .lst (SqL.of a) b

/-- what is wanted behind a statement -/
structure Pst where
  nx : PEnv → Prop
  rt : PEnv → Hp → V → Prop
  bk : PEnv → Prop := fun _ => False
  ct : PEnv → Prop := fun _ => False
def RunS (K : PySem.W.Frag) (F : Fx) (t : TS) (r : PEnv) (E : Pst) : Prop := ∀ s B H, EnvOk K F B H s r → ∀ D : Ends,
  (∀ s' B' H' r', E.nx r' → EnvOk K F B' H' s' r' → Same B B' → D.nx s' H') →
  (∀ v s' B' H' r', E.rt r' B' v → EnvOk K F B' H' s' r' → Same B B' → D.rt v H') →
  (∀ s' B' H' r', E.bk r' → EnvOk K F B' H' s' r' → Same B B' → D.bk s' H') →
  (∀ s' B' H' r', E.ct r' → EnvOk K F B' H' s' r' → Same B B' → D.ct s' H') → t D s H

section
variable {K : PySem.W.Frag} {F : Fx} {r r1 r2 : PEnv} {te ta tb tc : TE} {tt tu : TT} {d a b c : PyData} {P : Hp → V → Prop} {ds es : List PyData}

/-! ### expressions -/
theorem RunL.toE (h : RunL K F te r ds) : RunE K F te r (.list ds) := fun s B H ok Q q => h s B H ok Q fun p xs B' H' g hp bp hp' ha =>
  q _ _ _ (g.freeze hp bp hp') (.lst (SqL.of upd_same) (dpAll_mono (Same.new bp) _ _ ha))
theorem RunL.toV (h : RunL K F te r ds) : RunV K F te r (IsLst K ds) := fun s B H ok Q q => h s B H ok Q fun p xs B' H' g hp bp hp' ha =>
  q _ _ _ (g.freeze hp bp hp') ⟨p, xs, rfl, upd_same, dpAll_mono (Same.new bp) _ _ ha⟩
theorem RunL.toR (h : RunL K F te r ds) : RunR K F te r ds := fun s B H ok Q q => h s B H ok Q fun p xs B' H' g hp bp hp' ha => q p xs B' H' g hp' ha
theorem RunV.toR (h : RunV K F te r (IsLst K ds)) : RunR K F te r ds := fun s B H ok Q q => h s B H ok Q fun v B' H' g ⟨p, xs, e, a, b⟩ => by
  subst e
  exact q p xs B' H' g (g.bh _ _ a) b
theorem RunV.toE (h : RunV K F te r (IsLst K ds)) : RunE K F te r (.list ds) := fun s B H ok Q q => h s B H ok Q fun v B' H' g z => q v B' H' g z.dp
theorem RunE.toV (h : RunE K F te r d) : RunV K F te r (fun B v => Dp K B v d) := h
theorem RunV.toD (h : RunV K F te r (fun B v => Dp K B v d)) : RunE K F te r d := h
theorem RunE.is {d' : PyData} (h : RunE K F te r d) (e : d = d') : RunE K F te r d' := e ▸ h
theorem RunT.is {b b' : Bool} (h : RunT K F tt r b) (e : b = b') : RunT K F tt r b' := e ▸ h
theorem RunL.is {ds' : List PyData} (h : RunL K F te r ds) (e : ds = ds') : RunL K F te r ds' := e ▸ h

theorem run_var {i : Nat} (h : r[i]? = some (some (.d d))) : RunE K F (tVar i) r d := fun s B H ok Q q => by
  obtain ⟨v, a, b⟩ := ok.ent i _ h
  exact ⟨v, a, q v B H (Grow.refl ok.bh) b⟩
theorem run_wld {i : Nat} (h : r[i]? = some (some (.wld d))) : RunE K F (tVar i) r d := fun s B H ok Q q => by
  obtain ⟨v, a, b⟩ := ok.ent i _ h
  exact ⟨v, a, q v B H (Grow.refl ok.bh) b.1⟩
theorem run_varD {i : Nat} {kvs : List (L2.Key × V)} (h : r[i]? = some (some (.dct kvs))) : RunV K F (tVar i) r (fun B v => IsDct B v kvs) := fun s B H ok Q q => by
  obtain ⟨v, a, b⟩ := ok.ent i _ h
  exact ⟨v, a, q v B H (Grow.refl ok.bh) b⟩
theorem run_own {i : Nat} (h : r[i]? = some (some (.own ds))) : RunR K F (tVar i) r ds := fun s B H ok Q q => by
  obtain ⟨v, a, p, xs, e, b1, b2, b3, b4, b5⟩ := ok.ent i _ h
  subst e
  exact ⟨_, a, q p xs B H (Grow.refl ok.bh) b4 b5⟩
theorem run_int {i : Int} : RunE K F (tC (.int i)) r (.int i) := fun s B H ok Q q => q _ B H (Grow.refl ok.bh) (.int i)
theorem run_str {x : Str} : RunE K F (tC (.str x)) r (.str x) := fun s B H ok Q q => q _ B H (Grow.refl ok.bh) (.str x)
theorem run_bl {x : Bool} : RunE K F (tC (.bl x)) r (.bool x) := fun s B H ok Q q => q _ B H (Grow.refl ok.bh) (.bl x)
theorem run_non : RunE K F (tC .non) r .none := fun s B H ok Q q => q _ B H (Grow.refl ok.bh) .non

/-- an operation on data -/
def OpD (K : PySem.W.Frag) (rr : R2) (a b d : PyData) : Prop := ∀ B H x y, Same B H → Dp K B x a → Dp K B y b → ∀ Q : VK, (∀ v B' H', Grow B H B' H' → Dp K B' v d → Q v H') → rr x y H Q
theorem run_op {rr : R2} (ha : RunE K F ta r a) (hb : RunE K F tb r b) (ho : OpD K rr a b d) : RunE K F (tOp rr ta tb) r d := fun s B H ok Q q =>
  ha s B H ok _ fun x B1 H1 g1 dx => hb s B1 H1 (ok.grow g1) _ fun y B2 H2 g2 dy => ho B2 H2 x y g2.bh (dp_mono g2.bb _ _ dx) dy Q fun v B3 H3 g3 dv => q v B3 H3 (g1.trans (g2.trans g3)) dv
/-- an operation whose answer is a bool -/
def OpB (K : PySem.W.Frag) (rr : R2) (a b : PyData) (k : Bool) : Prop := ∀ B H x y, Same B H → Dp K B x a → Dp K B y b → ∀ Q : VK, Q (.bl k) H → rr x y H Q
theorem OpB.toD {rr : R2} {k : Bool} (h : OpB K rr a b k) : OpD K rr a b (.bool k) := fun B H x y s dx dy Q q => h B H x y s dx dy Q (q _ B H (Grow.refl s) (.bl k))
theorem run_opB {rr : R2} {k : Bool} (ha : RunE K F ta r a) (hb : RunE K F tb r b) (ho : OpB K rr a b k) : RunE K F (tOp rr ta tb) r (.bool k) := run_op ha hb ho.toD
theorem test_of {k : Bool} (h : RunE K F te r (.bool k)) : RunT K F (tTest te) r k := fun s B H ok Q q => h s B H ok _ fun v B' H' g dv => by
  cases dv
  exact ⟨k, rfl, q B' H' g⟩
theorem test_B {k : Bool} (h : RunE K F te r (.bool k)) : RunT K F (tB te) r k := fun s B H ok Q q => h s B H ok _ fun v B' H' g dv => by
  cases dv
  exact ⟨k, rfl, q B' H' g⟩
theorem test_op {rr : R2} {k : Bool} (ha : RunE K F ta r a) (hb : RunE K F tb r b) (ho : OpB K rr a b k) : RunT K F (tTest (tOp rr ta tb)) r k := test_of (run_opB ha hb ho)
theorem test_not {k : Bool} (h : RunT K F tt r k) : RunT K F (tNot tt) r (!k) := fun s B H ok Q q => h s B H ok _ fun B' H' g => q B' H' g
theorem test_notT (h : RunT K F tt r true) : RunT K F (tNot tt) r false := test_not h
theorem test_notF (h : RunT K F tt r false) : RunT K F (tNot tt) r true := test_not h
theorem test_and {k l : Bool} (h1 : RunT K F tt r k) (h2 : k = true → RunT K F tu r l) : RunT K F (tAnd tt tu) r (k && l) := fun s B H ok Q q => h1 s B H ok _ fun B1 H1 g1 => by
  cases k with
  | true => exact h2 rfl s B1 H1 (ok.grow g1) Q fun B2 H2 g2 => q B2 H2 (g1.trans g2)
  | false => exact q B1 H1 g1
theorem test_or {k l : Bool} (h1 : RunT K F tt r k) (h2 : k = false → RunT K F tu r l) : RunT K F (tOr tt tu) r (k || l) := fun s B H ok Q q => h1 s B H ok _ fun B1 H1 g1 => by
  cases k with
  | false => exact h2 rfl s B1 H1 (ok.grow g1) Q fun B2 H2 g2 => q B2 H2 (g1.trans g2)
  | true => exact q B1 H1 g1
theorem test_orF {l : Bool} (h1 : RunT K F tt r false) (h2 : RunT K F tu r l) : RunT K F (tOr tt tu) r l := (test_or h1 fun _ => h2).is (Bool.false_or l)
theorem test_orT (h1 : RunT K F tt r true) : RunT K F (tOr tt tu) r true := test_or (l := true) h1 fun z => nomatch z
theorem test_andT {l : Bool} (h1 : RunT K F tt r true) (h2 : RunT K F tu r l) : RunT K F (tAnd tt tu) r l := (test_and h1 fun _ => h2).is (Bool.true_and l)
theorem test_andF (h1 : RunT K F tt r false) : RunT K F (tAnd tt tu) r false := test_and (l := false) h1 fun z => nomatch z
theorem run_and {k l : Bool} (h1 : RunE K F ta r (.bool k)) (h2 : k = true → RunE K F tb r (.bool l)) : RunE K F (tAndV ta tb) r (.bool (k && l)) := fun s B H ok Q q => h1 s B H ok _ fun v B1 H1 g1 dv => by
  cases dv
  refine ⟨k, rfl, ?_⟩
  cases k with
  | true => exact h2 rfl s B1 H1 (ok.grow g1) Q fun v B2 H2 g2 => q v B2 H2 (g1.trans g2)
  | false => exact q _ B1 H1 g1 (.bl false)
theorem run_or {k l : Bool} (h1 : RunE K F ta r (.bool k)) (h2 : k = false → RunE K F tb r (.bool l)) : RunE K F (tOrV ta tb) r (.bool (k || l)) := fun s B H ok Q q => h1 s B H ok _ fun v B1 H1 g1 dv => by
  cases dv
  refine ⟨k, rfl, ?_⟩
  cases k with
  | false => exact h2 rfl s B1 H1 (ok.grow g1) Q fun v B2 H2 g2 => q v B2 H2 (g1.trans g2)
  | true => exact q _ B1 H1 g1 (.bl true)
theorem run_andT {l : Bool} (h1 : RunE K F ta r (.bool true)) (h2 : RunE K F tb r (.bool l)) : RunE K F (tAndV ta tb) r (.bool l) := (run_and h1 fun _ => h2).is (by rw [Bool.true_and])
theorem run_andF (h1 : RunE K F ta r (.bool false)) : RunE K F (tAndV ta tb) r (.bool false) := run_and (l := false) h1 fun z => nomatch z
theorem run_orF {l : Bool} (h1 : RunE K F ta r (.bool false)) (h2 : RunE K F tb r (.bool l)) : RunE K F (tOrV ta tb) r (.bool l) := (run_or h1 fun _ => h2).is (by rw [Bool.false_or])
theorem run_orT (h1 : RunE K F ta r (.bool true)) : RunE K F (tOrV ta tb) r (.bool true) := run_or (l := true) h1 fun z => nomatch z
theorem run_not {k : Bool} (h1 : RunE K F ta r (.bool k)) : RunE K F (tNotV ta) r (.bool (!k)) := fun s B H ok Q q => h1 s B H ok _ fun v B1 H1 g1 dv => by
  cases dv
  exact ⟨k, rfl, q _ B1 H1 g1 (.bl _)⟩
theorem run_ifT (h : RunT K F tt r true) (h1 : RunE K F ta r d) : RunE K F (tIf tt ta tb) r d := fun s B H ok Q q => h s B H ok _ fun B1 H1 g1 => h1 s B1 H1 (ok.grow g1) Q fun v B2 H2 g2 => q v B2 H2 (g1.trans g2)
theorem run_ifF (h : RunT K F tt r false) (h1 : RunE K F tb r d) : RunE K F (tIf tt ta tb) r d := fun s B H ok Q q => h s B H ok _ fun B1 H1 g1 => h1 s B1 H1 (ok.grow g1) Q fun v B2 H2 g2 => q v B2 H2 (g1.trans g2)
theorem run_if {k : Bool} (h : RunT K F tt r k) (h1 : k = true → RunE K F ta r d) (h2 : k = false → RunE K F tb r d) : RunE K F (tIf tt ta tb) r d := by
  cases k with
  | true => exact run_ifT h (h1 rfl)
  | false => exact run_ifF h (h2 rfl)
theorem run_a0 : RunA K F tNil r [] := fun s B H ok Q q => q [] B H (Grow.refl ok.bh) .nil
theorem run_a {tr : TA} (h : RunE K F te r d) (hr : RunA K F tr r ds) : RunA K F (tCons te tr) r (d :: ds) := fun s B H ok Q q => h s B H ok _ fun v B1 H1 g1 dv =>
  hr s B1 H1 (ok.grow g1) _ fun vs B2 H2 g2 dvs => q (v :: vs) B2 H2 (g1.trans g2) (.cons (dp_mono g2.bb _ _ dv) dvs)
theorem line_of {n : Nat} (h : n ≤ 1000000) : n ≤ sizeLine := Nat.le_trans h (by decide)
theorem line_lt {n : Nat} (h : n < 1000000) : n < sizeLine := Nat.lt_of_lt_of_le h (by decide)
theorem run_tup {ta : TA} (h : RunA K F ta r ds) (hl : ds.length ≤ 1000000) : RunE K F (tTup ta) r (.tuple ds) := fun s B H ok Q q => h s B H ok _ fun vs B1 H1 g1 dvs =>
  ⟨by rw [dpAll_len dvs]; exact line_of hl, fun p hp => q _ _ _ (g1.trans (Grow.lay g1.bh hp)) (.tup (SqT.of upd_same) (dpAll_mono (Same.new (g1.bh.free hp)) _ _ dvs))⟩
theorem run_lst {ta : TA} (h : RunA K F ta r ds) (hl : ds.length ≤ 1000000) : RunL K F (tLst ta) r ds := fun s B H ok Q q => h s B H ok _ fun vs B1 H1 g1 dvs =>
  ⟨by rw [dpAll_len dvs]; exact line_of hl, fun p hp => q p vs B1 _ (g1.trans (Grow.out g1.bh hp)) (Same.free g1.hh hp) (g1.bh.free hp) upd_same dvs⟩
/-- a call of a builtin by its data -/
def CallD (K : PySem.W.Frag) (rr : List V → Hp → VK → Prop) (ds : List PyData) (d : PyData) : Prop := ∀ B H vs, Same B H → DpAll K B vs ds → ∀ Q : VK, (∀ v B' H', Grow B H B' H' → Dp K B' v d → Q v H') → rr vs H Q
theorem run_cb {rr : List V → Hp → VK → Prop} {ta : TA} (h : RunA K F ta r ds) (hc : CallD K rr ds d) : RunE K F (tCB rr ta) r d := fun s B H ok Q q => h s B H ok _ fun vs B1 H1 g1 dvs =>
  hc B1 H1 vs g1.bh dvs Q fun v B2 H2 g2 => q v B2 H2 (g1.trans g2)

/-! ### statements -/
variable {t u : TS} {E : Pst}
theorem run_seq (h : RunS K F t r { E with nx := fun r1 => RunS K F u r1 E }) : RunS K F (tSeq t u) r E := fun s B H ok D hn hr hb hc =>
  h s B H ok { D with nx := u D } (fun s' B' H' r' q ok' e => q s' B' H' ok' D (fun s2 B2 H2 r2 a b c => hn s2 B2 H2 r2 a b (e.trans c)) (fun v s2 B2 H2 r2 a b c => hr v s2 B2 H2 r2 a b (e.trans c))
    (fun s2 B2 H2 r2 a b c => hb s2 B2 H2 r2 a b (e.trans c)) (fun s2 B2 H2 r2 a b c => hc s2 B2 H2 r2 a b (e.trans c))) hr hb hc
theorem run_weak (l : Le r1 r) (h : RunS K F t r1 E) : RunS K F t r E := fun s B H ok => h s B H (ok.weak l)
theorem run_next (q : E.nx r) : RunS K F tNext r E := fun s B H ok D hn hr hb hc => hn s B H r q ok (Same.refl _)
theorem run_brk (q : E.bk r) : RunS K F tBreak r E := fun s B H ok D hn hr hb hc => hb s B H r q ok (Same.refl _)
theorem run_cont (q : E.ct r) : RunS K F tCont r E := fun s B H ok D hn hr hb hc => hc s B H r q ok (Same.refl _)
theorem run_asg {i : Nat} (h : RunE K F te r d) (q : E.nx (r.set i (some (.d d)))) : RunS K F (tAsg te (gName i)) r E := fun s B H ok D hn hr hb hc =>
  h s B H ok _ fun v B' H' g dv => hn _ B' H' _ q ((ok.grow g).setD i dv) g.bb
theorem run_asgq {i : Nat} (h : RunE K F te r d) (q : RunS K F u (r.set i (some (.d d))) E) : RunS K F (tSeq (tAsg te (gName i)) u) r E := run_seq (run_asg h q)
theorem run_asgL {i : Nat} (h : RunL K F te r ds) (q : E.nx (r.set i (some (.own ds)))) (ht : F.tw = none ∨ True := .inr True.intro) : RunS K F (tAsg te (gName i)) r E := fun s B H ok D hn hr hb hc =>
  h s B H ok _ fun p xs B' H' g hp bp hp' ha => by
    have hnt : F.tw ≠ some p := fun e => (ok.twin p e).2 hp
    have hfe : F.He p = none := by
      cases e : F.He p with
      | none => rfl
      | some o =>
        have := ok.keep p o e hnt
        rw [hp] at this
        cases this
    refine hn _ B' H' _ q ((ok.grow g).set i (e := .own ds) ⟨p, xs, rfl, bp, hfe, hnt, hp', ha⟩ fun ds' p' e1 e2 j dj hj hr' hs' => ?_) g.bb
    cases e2
    obtain ⟨v, a, p2, xs2, e, b1, b2, b3, b4, b5⟩ := ok.ent j _ hr'
    rw [hs'] at a
    injection a with a
    injection a with a
    subst a
    cases e
    rw [hp] at b4
    cases b4
theorem run_asgLq {i : Nat} (h : RunL K F te r ds) (q : RunS K F u (r.set i (some (.own ds))) E) : RunS K F (tSeq (tAsg te (gName i)) u) r E := run_seq (run_asgL h q)
theorem run_asgD {i : Nat} {kvs : List (L2.Key × V)} (h : RunV K F te r (fun B v => IsDct B v kvs)) (q : E.nx (r.set i (some (.dct kvs)))) : RunS K F (tAsg te (gName i)) r E := fun s B H ok D hn hr hb hc =>
  h s B H ok _ fun v B' H' g dv => hn _ B' H' _ q ((ok.grow g).set i (e := .dct kvs) dv fun ds p e => by cases e) g.bb
theorem run_iff {k : Bool} (h : RunT K F tt r k) (h1 : k = true → RunS K F t r E) (h2 : k = false → RunS K F u r E) : RunS K F (tIfS tt t u) r E := fun s B H ok D hn hr hb hc =>
  h s B H ok _ fun B1 H1 g1 => by
    cases k with
    | true => exact h1 rfl s B1 H1 (ok.grow g1) D (fun s2 B2 H2 r2 a b c => hn s2 B2 H2 r2 a b (g1.bb.trans c)) (fun v s2 B2 H2 r2 a b c => hr v s2 B2 H2 r2 a b (g1.bb.trans c)) (fun s2 B2 H2 r2 a b c => hb s2 B2 H2 r2 a b (g1.bb.trans c)) (fun s2 B2 H2 r2 a b c => hc s2 B2 H2 r2 a b (g1.bb.trans c))
    | false => exact h2 rfl s B1 H1 (ok.grow g1) D (fun s2 B2 H2 r2 a b c => hn s2 B2 H2 r2 a b (g1.bb.trans c)) (fun v s2 B2 H2 r2 a b c => hr v s2 B2 H2 r2 a b (g1.bb.trans c)) (fun s2 B2 H2 r2 a b c => hb s2 B2 H2 r2 a b (g1.bb.trans c)) (fun s2 B2 H2 r2 a b c => hc s2 B2 H2 r2 a b (g1.bb.trans c))
theorem run_iffT (h : RunT K F tt r true) (h1 : RunS K F t r E) : RunS K F (tIfS tt t u) r E := run_iff h (fun _ => h1) (fun z => nomatch z)
theorem run_iffF (h : RunT K F tt r false) (h1 : RunS K F u r E) : RunS K F (tIfS tt t u) r E := run_iff h (fun z => nomatch z) (fun _ => h1)
/-- a guard that does not hold -/
theorem run_skip (h : RunT K F tt r false) (h1 : RunS K F u r E) : RunS K F (tSeq (tIfS tt t tNext) u) r E := run_seq (run_iffF h (run_next h1))
theorem run_retV (h : RunV K F te r P) (q : ∀ B v, P B v → E.rt r B v) : RunS K F (tRet te) r E := fun s B H ok D hn hr hb hc =>
  h s B H ok _ fun v B' H' g dv => hr v s B' H' r (q B' v dv) (ok.grow g) g.bb
theorem run_ret (h : RunE K F te r d) (q : ∀ B v, Dp K B v d → E.rt r B v) : RunS K F (tRet te) r E := run_retV h.toV q
theorem run_drop (h : RunE K F te r d) (q : E.nx r) : RunS K F (tDrop te) r E := fun s B H ok D hn hr hb hc =>
  h s B H ok _ fun v B' H' g dv => hn s B' H' r q (ok.grow g) g.bb
/-- an own list changes -/
theorem EnvOk.upd {B H : Hp} {s : L2.St} {i : Nat} {p : Addr} {ys : List V} (ok : EnvOk K F B H s r) (hi : r[i]? = some (some (.own ds))) (hs : s[i]? = some (some (.ref p))) (hy : DpAll K B ys es) : EnvOk K F B (L2.upd H p (.lst ys)) s (r.set i (some (.own es))) := by
  obtain ⟨v, a, p2, xs, e, b1, b2, b3, b4, b5⟩ := ok.ent i _ hi
  rw [hs] at a
  injection a with a
  injection a with a
  subst a
  cases e
  refine ⟨fun b u q => ?_, ok.bb, ok.eh, ok.new, fun b o q t => ?_, fun b t => ?_, by rw [List.length_set]; exact ok.len, fun j e q => ?_, fun x y dx dy q qx qy sx sy => ?_⟩
  · rw [upd_ne (fun z => by rw [z, b1] at q; cases q)]
    exact ok.bh b u q
  · rw [upd_ne (fun z => by rw [z, b2] at q; cases q)]
    exact ok.keep b o q t
  · obtain ⟨t1, t2⟩ := ok.twin b t
    refine ⟨t1, ?_⟩
    rw [upd_ne (fun z => b3 (by rw [← z]; exact t))]
    exact t2
  · rcases get_set q with ⟨rfl, rfl, hl⟩ | ⟨hj, q⟩
    · exact ⟨_, hs, p, ys, rfl, b1, b2, b3, upd_same, hy⟩
    · obtain ⟨u, c1, c2⟩ := ok.ent j e q
      refine ⟨u, c1, ?_⟩
      cases e with
      | d x => exact c2
      | dct x => exact c2
      | wld x => exact c2
      | lw x => exact c2
      | own dj =>
        obtain ⟨p3, xs3, e3, f1, f2, f3, f4, f5⟩ := c2
        subst e3
        refine ⟨p3, xs3, rfl, f1, f2, f3, ?_, f5⟩
        rw [upd_ne (fun z => hj (ok.apart j i dj ds p q hi (by rw [← z]; exact c1) hs))]
        exact f4
      | twn n =>
        obtain ⟨p3, ns, e3, f1, f2, f3, f4⟩ := c2
        subst e3
        refine ⟨p3, ns, rfl, f1, f2, ?_, f4⟩
        rw [upd_ne (fun z => b3 (by rw [← z]; exact f2))]
        exact f3
  · have back : ∀ {k : Nat} {dk : List PyData}, (r.set i (some (.own es)))[k]? = some (some (.own dk)) → ∃ dk', r[k]? = some (some (.own dk')) := fun {k dk} qk => by
      rcases get_set qk with ⟨rfl, _, _⟩ | ⟨_, qk⟩
      · exact ⟨ds, hi⟩
      · exact ⟨dk, qk⟩
    obtain ⟨dx', qx'⟩ := back qx
    obtain ⟨dy', qy'⟩ := back qy
    exact ok.apart x y dx' dy' q qx' qy' sx sy
theorem run_append {i : Nat} (hi : r[i]? = some (some (.own ds))) (hl : ds.length < 1000000) (h : RunE K F te r d) (q : E.nx (r.set i (some (.own (ds ++ [d]))))) :
    RunS K F (tDrop (tBM K "list" rAppend (tVar i) (tCons te tNil))) r E := fun s B H ok D hn hr hb hc => by
  obtain ⟨v, a, p, xs, e, b1, b2, b3, b4, b5⟩ := ok.ent i _ hi
  subst e
  refine ⟨_, a, .inl ⟨rfl, xs, SqL.of b4⟩, ?_⟩
  refine h s B H ok _ fun y B1 H1 g1 dy => ?_
  refine ⟨p, xs, y, rfl, rfl, g1.hh _ _ b4, by rw [dpAll_len b5]; exact line_lt hl, ?_⟩
  exact hn s B1 _ _ q ((ok.grow g1).upd hi a (dpAll_app (dpAll_mono g1.bb _ _ b5) (.cons dy .nil))) g1.bb
theorem run_extend {i : Nat} (hi : r[i]? = some (some (.own ds))) (hl : ds.length + es.length ≤ 1000000) (h : RunR K F te r es) (q : E.nx (r.set i (some (.own (ds ++ es))))) :
    RunS K F (tDrop (tBM K "list" rExtend (tVar i) (tCons te tNil))) r E := fun s B H ok D hn hr hb hc => by
  obtain ⟨v, a, p, xs, e, b1, b2, b3, b4, b5⟩ := ok.ent i _ hi
  subst e
  refine ⟨_, a, .inl ⟨rfl, xs, SqL.of b4⟩, ?_⟩
  refine h s B H ok _ fun y ys B1 H1 g1 hy dy => ?_
  refine ⟨p, y, xs, ys, rfl, rfl, g1.hh _ _ b4, hy, by rw [dpAll_len b5, dpAll_len dy]; exact line_of hl, ?_⟩
  exact hn s B1 _ _ q ((ok.grow g1).upd hi a (dpAll_app (dpAll_mono g1.bb _ _ b5) dy)) g1.bb
/-- an own list is given up: from here on it stands still -/
theorem EnvOk.freeze {B H : Hp} {s : L2.St} {i : Nat} (ok : EnvOk K F B H s r) (hi : r[i]? = some (some (.own ds))) :
    ∃ p xs, B p = none ∧ H p = some (.lst xs) ∧ DpAll K B xs ds ∧ s[i]? = some (some (.ref p)) ∧ Same B (L2.upd B p (.lst xs)) ∧ EnvOk K F (L2.upd B p (.lst xs)) H s (r.set i (some (.d (.list ds)))) := by
  obtain ⟨v, a, p, xs, e, b1, b2, b3, b4, b5⟩ := ok.ent i _ hi
  subst e
  have sb : Same B (L2.upd B p (.lst xs)) := Same.new b1
  refine ⟨p, xs, b1, b4, b5, a, sb, ?_⟩
  refine ⟨fun b u q => ?_, ok.bb.trans sb, ok.eh, fun b hb => ?_, ok.keep, fun b t => ?_, by rw [List.length_set]; exact ok.len, fun j e q => ?_, fun x y dx dy q qx qy sx sy => ?_⟩
  · by_cases z : b = p
    · subst z
      rw [upd_same] at q
      rw [b4]
      exact q
    · rw [upd_ne z] at q
      exact ok.bh b u q
  · rw [upd_ne (fun z => hb (by rw [z]; exact b2))]
    exact ok.new b hb
  · obtain ⟨t1, t2⟩ := ok.twin b t
    exact ⟨by rw [upd_ne (fun z => b3 (by rw [← z]; exact t))]; exact t1, t2⟩
  · rcases get_set q with ⟨rfl, rfl, hl⟩ | ⟨hj, q⟩
    · exact ⟨_, a, .lst (SqL.of upd_same) (dpAll_mono sb _ _ b5)⟩
    · obtain ⟨u, c1, c2⟩ := ok.ent j e q
      refine ⟨u, c1, ?_⟩
      cases e with
      | d x => exact dp_mono sb x u c2
      | dct x => exact IsDct.mono sb c2
      | wld x => exact ⟨dp_mono sb x u c2.1, c2.2.mono sb⟩
      | lw x => exact LwOk.mono sb c2
      | own dj =>
        obtain ⟨p3, xs3, e3, f1, f2, f3, f4, f5⟩ := c2
        subst e3
        refine ⟨p3, xs3, rfl, ?_, f2, f3, f4, dpAll_mono sb _ _ f5⟩
        rw [upd_ne (fun z => hj (ok.apart j i dj ds p q hi (by rw [← z]; exact c1) a))]
        exact f1
      | twn n =>
        obtain ⟨p3, ns, e3, f1, f2, f3, f4⟩ := c2
        subst e3
        refine ⟨p3, ns, rfl, ?_, f2, f3, f4⟩
        rw [upd_ne (fun z => b3 (by rw [← z]; exact f2))]
        exact f1
  · rcases get_set qx with ⟨_, z, _⟩ | ⟨_, qx⟩
    · cases z
    · rcases get_set qy with ⟨_, z, _⟩ | ⟨_, qy⟩
      · cases z
      · exact ok.apart x y dx dy q qx qy sx sy
theorem run_freeze (i : Nat) (hi : r[i]? = some (some (.own ds))) (h : RunS K F t (r.set i (some (.d (.list ds)))) E) : RunS K F t r E := fun s B H ok D hn hr hb hc => by
  obtain ⟨p, xs, b1, b4, b5, a, sb, ok'⟩ := ok.freeze hi
  exact h s _ H ok' D (fun s2 B2 H2 r2 a b c => hn s2 B2 H2 r2 a b (sb.trans c)) (fun v s2 B2 H2 r2 a b c => hr v s2 B2 H2 r2 a b (sb.trans c)) (fun s2 B2 H2 r2 a b c => hb s2 B2 H2 r2 a b (sb.trans c)) (fun s2 B2 H2 r2 a b c => hc s2 B2 H2 r2 a b (sb.trans c))
/-- an own list looked at in a test -/
theorem test_borrow (i : Nat) {k : Bool} (hi : r[i]? = some (some (.own ds))) (h : RunT K F tt (r.set i (some (.d (.list ds)))) k) : RunT K F tt r k := fun s B H ok Q q => by
  obtain ⟨p, xs, b1, b4, b5, a, sb, ok'⟩ := ok.freeze hi
  refine h s _ H ok' Q fun B' H' g => q (fun x => if x = p then none else B' x) H' ⟨fun b u e => ?_, fun b u e => ?_, g.hh, fun b hb => ?_⟩
  · show (if b = p then none else B' b) = some u
    rw [if_neg (fun z => by rw [z, b1] at e; cases e)]
    exact g.bb b u (sb b u e)
  · by_cases z : b = p
    · rw [if_pos z] at e; cases e
    · rw [if_neg z] at e
      exact g.bh b u e
  · by_cases z : b = p
    · rw [if_pos z, z, b1]
    · rw [if_neg z, g.new b hb, upd_ne z]

/-! ### targets -/
theorem wipe_get {s : L2.St} : ∀ {vs : List Nat} {i : Nat}, (wipe s vs)[i]? = if i ∈ vs ∧ i < s.length then some none else s[i]?
  | [], i => by simp [wipe]
  | v :: vs, i => by
    unfold wipe
    by_cases hi : i = v
    · subst hi
      by_cases hl : i < s.length
      · rw [List.getElem?_set_self (by rw [wipe_length]; exact hl), if_pos ⟨List.mem_cons_self, hl⟩]
      · rw [List.getElem?_eq_none (by rw [List.length_set, wipe_length]; omega), if_neg (fun z => hl z.2), List.getElem?_eq_none (by omega)]
    · rw [List.getElem?_set_ne (Ne.symm hi), wipe_get]
      by_cases hm : i ∈ vs ∧ i < s.length
      · rw [if_pos hm, if_pos ⟨List.mem_cons_of_mem _ hm.1, hm.2⟩]
      · rw [if_neg hm, if_neg (fun z => hm ⟨(List.mem_cons.mp z.1).resolve_left hi, z.2⟩)]
theorem wipe_set {s : L2.St} {vs : List Nat} {i : Nat} {x : Option V} (h : i ∈ vs) : wipe (s.set i x) vs = wipe s vs := by
  apply List.ext_getElem?
  intro j
  rw [wipe_get, wipe_get, List.length_set]
  by_cases hj : j ∈ vs ∧ j < s.length
  · rw [if_pos hj, if_pos hj]
  · rw [if_neg hj, if_neg hj]
    by_cases e : j = i
    · subst e
      have hl : ¬ j < s.length := fun z => hj ⟨h, z⟩
      rw [List.getElem?_eq_none (by rw [List.length_set]; omega), List.getElem?_eq_none (by omega)]
    · rw [List.getElem?_set_ne (Ne.symm e)]
theorem wipe_wipe {s : L2.St} {vs : List Nat} : wipe (wipe s vs) vs = wipe s vs := by
  apply List.ext_getElem?
  intro j
  rw [wipe_get, wipe_get, wipe_length]
  by_cases hj : j ∈ vs ∧ j < s.length
  · rw [if_pos hj, if_pos hj]
  · rw [if_neg hj, if_neg hj]
def wipeR (r : PEnv) : List Nat → PEnv
  | [] => r
  | v :: vs => (wipeR r vs).set v none
theorem EnvOk.unset {B H : Hp} {s : L2.St} (ok : EnvOk K F B H s r) (i : Nat) : EnvOk K F B H (s.set i none) (r.set i none) := by
  have back : ∀ {j : Nat} {e : Ent}, (r.set i none)[j]? = some (some e) → j ≠ i ∧ r[j]? = some (some e) := fun {j e} q => by
    by_cases hj : j = i
    · subst hj
      by_cases hl : j < r.length
      · rw [List.getElem?_set_self hl] at q
        cases q
      · rw [List.getElem?_eq_none (by rw [List.length_set]; omega)] at q
        cases q
    · rw [List.getElem?_set_ne (Ne.symm hj)] at q
      exact ⟨hj, q⟩
  refine ⟨ok.bh, ok.bb, ok.eh, ok.new, ok.keep, ok.twin, by rw [List.length_set, List.length_set]; exact ok.len, fun j e q => ?_, fun x y dx dy p qx qy sx sy => ?_⟩
  · obtain ⟨hj, q⟩ := back q
    obtain ⟨v, a, b⟩ := ok.ent j e q
    exact ⟨v, by rw [List.getElem?_set_ne (Ne.symm hj)]; exact a, b⟩
  · obtain ⟨hx, qx⟩ := back qx
    obtain ⟨hy, qy⟩ := back qy
    rw [List.getElem?_set_ne (Ne.symm hx)] at sx
    rw [List.getElem?_set_ne (Ne.symm hy)] at sy
    exact ok.apart x y dx dy p qx qy sx sy
theorem EnvOk.wipe {B H : Hp} {s : L2.St} (ok : EnvOk K F B H s r) : ∀ vs : List Nat, EnvOk K F B H (L2.wipe s vs) (wipeR r vs)
  | [] => ok
  | v :: vs => (ok.wipe vs).unset v
theorem rung_name {vs : List Nat} {i : Nat} (h : i ∈ vs) : RunG K F vs (gName i) d r (r.set i (some (.d d))) := fun s B H v ok dv Q q => q _ (ok.setD i dv) (wipe_set h)
/-- several names -/
def RunGs (K : PySem.W.Frag) (F : Fx) (vs : List Nat) (g : TGs) (ds : List PyData) (r r' : PEnv) : Prop := ∀ s B H ws, EnvOk K F B H s r → DpAll K B ws ds → ∀ Q : L2.St → Hp → Prop, (∀ s', EnvOk K F B H s' r' → L2.wipe s' vs = L2.wipe s vs → Q s' H) → g ws s H Q
theorem rungs_nil {vs : List Nat} : RunGs K F vs gNil [] r r := fun s B H ws ok dv Q q => by
  cases dv
  exact ⟨rfl, q s ok rfl⟩
theorem rungs_cons {vs : List Nat} {g : TG} {gs : TGs} (h1 : RunG K F vs g d r r1) (h2 : RunGs K F vs gs ds r1 r2) : RunGs K F vs (gCons g gs) (d :: ds) r r2 := fun s B H ws ok dv Q q => by
  cases dv with
  | cons a b => exact ⟨_, _, rfl, h1 s B H _ ok a _ fun s' ok' e => h2 s' B H _ ok' b Q fun s2 ok2 e2 => q s2 ok2 (e2.trans e)⟩
theorem rung_tup {vs : List Nat} {n : Nat} {gs : TGs} (h : RunGs K F vs gs ds r r1) (hl : ds.length = n) : RunG K F vs (gTup K n gs) (.tuple ds) r r1 := fun s B H v ok dv Q q => by
  cases dv with
  | tup hs ha => exact ⟨_, _, rfl, sqT_mono ok.bh hs, (dpAll_len ha).trans hl, h s B H _ ok ha Q q⟩
theorem run_asgG {vs : List Nat} {g : TG} (h : RunE K F te r d) (hg : RunG K F vs g d r r1) (q : E.nx r1) : RunS K F (tAsg te g) r E := fun s B H ok D hn hr hb hc =>
  h s B H ok _ fun v B' H' gr dv => hg s B' H' v (ok.grow gr) dv _ fun s' ok' _ => hn s' B' H' r1 q ok' gr.bb
theorem run_par {i j : Nat} {t2 : TA} (h : RunA K F t2 r [a, b]) (q : E.nx ((r.set i (some (.d a))).set j (some (.d b)))) : RunS K F (tPar i j t2) r E := fun s B H ok D hn hr hb hc =>
  h s B H ok _ fun vs B' H' g dv => by
    cases dv with
    | cons da dr =>
      cases dr with
      | cons db dn =>
        cases dn
        exact ⟨_, _, rfl, hn _ B' H' _ q (((ok.grow g).setD i da).setD j db) g.bb⟩
end
end Ts
set_option Elab.async false
set_option linter.all false
set_option maxRecDepth 100000
set_option maxHeartbeats 2000000
/-! What is walked: any list, tuple or text; enumerate of a tuple; zip of a tuple with a tuple or a list. -/
namespace Ts
open PySem PySem.Spec PyProof.Rows L2

/-! ### enumerate(v) begins -/
set_option maxHeartbeats 1000000 in
theorem meets_enumB1 {v : Value} {o : Obj} {Hv : Heap → Prop} (B : Begins v o Hv) :
    Meets (Builtin.«enumerate.__new__» ⟨[.type "enumerate", v], []⟩) (fun _ R s => Hv s.heap ∧
      R (.ok (.ret (.ref (s.heap.push o).objs.size))) { s with heap := (s.heap.push o).push { cls := .type "enumerate", data := .fields #[.none, .bool false, .ref s.heap.objs.size, rawInt 0, .none, .none] } }) :=
  .of_wp fun prog w A R s h => by
    obtain ⟨hp, g, d, tk, os⟩ := s; obtain ⟨h1, h⟩ := h
    have hsub := sub_enumerate
    have q1 : ∀ {A' : Around} {E : Value → Shared → Prop} {Q : Value → Shared → Prop}, Q (.ref hp.objs.size) ⟨hp.push o, g, d, tk, os⟩ → wpAny (model prog w) A' (pyIter v) Q E ⟨hp, g, d, tk, os⟩ :=
      fun q => B.iter prog w _ _ ⟨hp, g, d, tk, os⟩ _ h1 q
    wp_walk using q1
    refine wpAny_stack_any fun st => wpAny_pure ?_
    split
    · rename_i c _ _ _ _ _
      cases (c == Value.type "enumerate")
      · wp_walk using q1
        exact ⟨_, rfl, h⟩
      · wp_walk using q1
        exact ⟨_, rfl, h⟩
    · wp_walk using q1
      exact ⟨_, rfl, h⟩
section
variable {prog : Program} {w : World} {A : Around} {E : Value → Shared → Prop} {s : Shared}
theorem enum_begins1 {v : Value} {o : Obj} {Hv : Heap → Prop} {Q : Value → Shared → Prop} (B : Begins v o Hv) (h1 : Hv s.heap)
    (h : ∀ h', IsEnum h' (s.heap.objs.size + 1) s.heap.objs.size 0 .none → h'.get? s.heap.objs.size = some o → h'.objs.size = s.heap.objs.size + 2 →
      (∀ b o, s.heap.get? b = some o → h'.get? b = some o) → Q (.ref (s.heap.objs.size + 1)) { s with heap := h' }) :
    wpAny (model prog w) A (call (.type "enumerate") [v]) Q E s := by
  refine callType_new F.called_enumerate (by decide) (F.typeCall_enumerate_1 _) (F.newCall_enumerate_1 _) (fun obj => F.args_object_init_2 obj _) F.entry_enumerate_new
    (meets_enumB1 B) ⟨h1, ?_⟩
  have hz : (s.heap.push o).objs.size = s.heap.objs.size + 1 := Heap.size_push ..
  show _ ∧ _
  rw [hz]
  have he : IsEnum ((s.heap.push o).push { cls := .type "enumerate", data := .fields #[.none, .bool false, .ref s.heap.objs.size, rawInt 0, .none, .none] }) (s.heap.objs.size + 1) s.heap.objs.size 0 .none := by
    have := Heap.get?_push_size (s.heap.push o) (o := { cls := .type "enumerate", data := .fields #[.none, .bool false, .ref s.heap.objs.size, rawInt 0, .none, .none] }) rfl
    rw [hz] at this; exact this
  refine ⟨⟨_, he, rfl⟩, h _ he (Heap.get?_push_of_some _ (Heap.get?_push_size _ B.free)) (by rw [Heap.size_push, hz]) fun b o x => Heap.get?_push_of_some _ (Heap.get?_push_of_some _ x)⟩
end

/-- the tuple at a, with places -/
def IteT (K : PySem.W.Frag) (a : Addr) : It :=
  ⟨fun i H => ∃ (xs : List V) (x : V), SqT K H a xs ∧ xs[i]? = some x, fun i H v H' => ∃ T x, v = .ref T ∧ H T = none ∧ H' = upd H T (.tup [.int (i : Nat), x]) ∧ ∀ xs, SqT K H a xs → xs[i]? = some x, fun i H => ∃ xs : List V, SqT K H a xs ∧ xs.length = i⟩
theorem turn_enumT {P : Program} {w : World} {K : PySem.W.Frag} {elts : List Expr} {kk : Nat} {tpos : Pos} (a e it : Addr) (hae : a ≠ e) (hai : a ≠ it) :
    Turn P w K (.Tuple elts kk tpos) (IteT K a) [e, it] e (fun i h => (∃ old, IsEnum h e it ((i : Nat) : Int) old) ∧ h.IsTupleIter it a i ∧ e ≠ it) where
  mem := by simp
  obj := fun i h st b hb => by
    obtain ⟨⟨old, he⟩, ⟨o, ho, hc, hd⟩, _⟩ := st
    have e' : b = e ∨ b = it := by simpa using hb
    rcases e' with z | z
    · rw [z]; exact ⟨_, he, fun v q => nomatch q⟩
    · rw [z]; exact ⟨o, ho, fun v q => by rw [hd] at q; cases q⟩
  keep := fun i h h' st k => let ⟨⟨old, he⟩, hi, hne⟩ := st; ⟨⟨old, k e (by simp) _ he⟩, hi.at fun o q => k it (by simp) o q, hne⟩
  item := by
    intro X hP hw hK hc i pins s σ H E I hf st hg
    subst hP hw hK
    obtain ⟨⟨old, he⟩, hit, hne⟩ := st
    obtain ⟨xs, x, hq, hx⟩ := hg
    obtain ⟨its, rv, p, hz⟩ := I.tuple hq
    have W := GoesN.enumFrom (prog := X.prog) (w := X.w) (A := X.A) (elts := elts) (x1 := kk) (pos := tpos) 0 (Draws.tuple (prog := X.prog) (w := X.w) (A := X.A.in1) (I.ok.hd hc) it a hai its.toArray) e hne (by simp [hne, Ne.symm hae]) (by simp)
    have hi : i < its.toArray.size := by
      have := (List.getElem?_eq_some_iff.mp hx).1
      rw [List.size_toArray, ← rv.length]
      exact this
    have z0 : (0 : Int) + ((i : Nat) : Int) = (i : Nat) := Int.zero_add _
    have hel : e < s.heap.objs.size := Heap.lt_size he
    have hil : it < s.heap.objs.size := by obtain ⟨_, q, _⟩ := hit; exact Heap.lt_size q
    refine W.goes i s _ E hi ⟨⟨old, by rw [z0]; exact he⟩, hit, p⟩ fun v h' tk hY st' hk htk => ?_
    obtain ⟨T, t, u, rfl, hT, hu, hTu⟩ := hY
    obtain ⟨⟨old', he'⟩, hit', _⟩ := st'
    have hu' : its[i]? = some u := by simpa using hu
    obtain ⟨u2, hu2, ru⟩ := rv.get hx
    rw [hu'] at hu2
    cases hu2
    have new : ObjOk X.prog X.w (upd H T (.tup [.int (i : Nat), x])) h' T (.tup [.int (i : Nat), x]) :=
      ⟨by show 2 ≤ sizeLine; decide, [.int i t, u], .cons ⟨_, rfl⟩ (.cons ru .nil), by rw [z0] at hTu; exact hTu⟩
    have I1 : Inv X pins σ (upd H T (.tup [.int (i : Nat), x])) { s with heap := h', toks := tk } := I.turnedNew (ch := [e, it]) hk hf hT new
    have nT : ∀ b, b < s.heap.objs.size → b ≠ T := fun b hb z => by
      rw [z] at hb
      exact absurd (Nat.lt_of_lt_of_le hb hT) (Nat.lt_irrefl _)
    refine ⟨.ref T, _, I1, rfl, ⟨T, x, rfl, I.hok.fresh hT, rfl, fun ys hy => by rw [I.tuple_inj hy hq]; exact hx⟩, ⟨⟨old', ?_⟩, hit', hne⟩, fun b hb => ?_⟩
    · have e1 : (0 : Int) + ((i + 1 : Nat) : Int) = ((i + 1 : Nat) : Int) := Int.zero_add _
      rw [e1] at he'
      exact he'
    · have hb' : b < s.heap.objs.size := by
        have e' : b = e ∨ b = it := by simpa using hb
        rcases e' with z | z
        · rw [z]; exact hel
        · rw [z]; exact hil
      rw [upd_ne (nT b hb')]
      exact (hf b hb).1
  done := by
    intro X hP hw hK hc i pins s σ H E I hf st hg
    subst hP hw hK
    obtain ⟨⟨old, he⟩, hit, hne⟩ := st
    obtain ⟨xs, hq, hx⟩ := hg
    obtain ⟨its, rv, p, hz⟩ := I.tuple hq
    have hl := rv.length
    have W := GoesN.enumFrom (prog := X.prog) (w := X.w) (A := X.A) (elts := elts) (x1 := kk) (pos := tpos) 0 (Draws.tuple (prog := X.prog) (w := X.w) (A := X.A.in1) (I.ok.hd hc) it a hai its.toArray) e hne (by simp [hne, Ne.symm hae]) (by simp)
    have en : i = its.toArray.size := by rw [List.size_toArray, ← hl]; exact hx.symm
    subst en
    have z0 : (0 : Int) + ((its.toArray.size : Nat) : Int) = (its.toArray.size : Nat) := Int.zero_add _
    refine thn (W.stops s (fun s1 => Inv X pins σ H s1) E ⟨⟨old, by rw [z0]; exact he⟩, hit, p⟩ fun h' tk hk htk => I.turnedL (ch := [e, it]) hk hf) fun r s1 q => q
  self := fun A i s Q E st h => let ⟨⟨_, he⟩, _⟩ := st; wpAny_pyIter_enum he h
def iEnumT (K : PySem.W.Frag) (ta : TA) : TI := fun σ H R => ta σ H fun vs H1 => ∃ a xs, vs = [.ref a] ∧ SqT K H1 a xs ∧ R (IteT K a) H1
theorem sqT_lt {X : Cx} {pins : List (Addr × Obj)} {σ : L2.St} {H : Hp} {s : Shared} {a : Addr} {xs : List V} (I : Inv X pins σ H s) (h : SqT X.K H a xs) : a < s.heap.objs.size := by
  obtain ⟨its, rv, ⟨o, ho, _⟩, hz⟩ := I.tuple h
  exact Heap.lt_size ho
theorem sqL_lt {X : Cx} {pins : List (Addr × Obj)} {σ : L2.St} {H : Hp} {s : Shared} {a : Addr} {xs : List V} (I : Inv X pins σ H s) (h : SqL X.K H a xs) : a < s.heap.objs.size := by
  obtain ⟨its, rv, ⟨o, n, ho, _⟩, hz⟩ := I.list h
  exact Heap.lt_size ho
theorem pi_enumT {X : Cx} {e : Expr} {ta : TA} {p pos tpos : Pos} {elts : List Expr} {kk : Nat} (hg : Gl X "enumerate") (hm : X.mg "enumerate" = none) (ha : PA X [e] ta) (hs : starEach [e] X.env = [(false, eval e X.env)] := by rfl) :
    PI X (.Tuple elts kk tpos) (.Call (.Name "enumerate" p) [e] [] pos) (iEnumT X.K ta) := by
  refine ⟨fun pins s σ H R I h => ?_⟩
  refine Call_ (ld_blt I hg hm boot_enumerate (PyProof.Rows.callWith_type1 (thn (ha.run pos pins s σ H _ I h) fun us s1 ⟨vs, H1, I1, r1, q1⟩ => ?_) hs rfl))
  obtain ⟨a, xs, ex, hq, q⟩ := q1
  subst ex
  cases r1 with
  | cons r rr =>
    cases rr
    cases r
    obtain ⟨its, rv, p', hz⟩ := I1.tuple hq
    have al := sqT_lt I1 hq
    refine enum_begins1 (begins_tuple a its.toArray) p' fun h' he hit hsz hk => wpAny_pyIter_enum he ?_
    have I2 : Inv X pins σ H1 { s1 with heap := h' } := I1.kept (t' := s1.toks) hk
    refine ⟨s1.heap.objs.size + 1, [s1.heap.objs.size + 1, s1.heap.objs.size], _, _, H1, rfl, I2, turn_enumT a (s1.heap.objs.size + 1) s1.heap.objs.size (Nat.ne_of_lt (Nat.lt_succ_of_lt al)) (Nat.ne_of_lt al), ⟨⟨.none, he⟩, ⟨_, hit, rfl, rfl⟩, Nat.succ_ne_self _⟩, fun b hb => ?_, q⟩
    have e' : b = s1.heap.objs.size + 1 ∨ b = s1.heap.objs.size := by simpa using hb
    have hle : s1.heap.objs.size ≤ b := by
      rcases e' with z | z
      · rw [z]; exact Nat.le_add_right _ _
      · rw [z]; exact Nat.le_refl _
    exact I1.fpOk hle (I1.hok.fresh hle)

/-! ### zip of a tuple and a tuple or a list -/
def SqTL (K : PySem.W.Frag) (k : Bool) (H : Hp) (a : Addr) (xs : List V) : Prop := if k = true then SqT K H a xs else SqL K H a xs
def ItzX (K : PySem.W.Frag) (k : Bool) (a b : Addr) : It :=
  ⟨fun i H => ∃ (xs ys : List V) (x y : V), SqT K H a xs ∧ SqTL K k H b ys ∧ xs[i]? = some x ∧ ys[i]? = some y,
    fun i H v H' => ∃ T x y, v = .ref T ∧ H T = none ∧ H' = upd H T (.tup [x, y]) ∧ (∀ xs, SqT K H a xs → xs[i]? = some x) ∧ ∀ ys, SqTL K k H b ys → ys[i]? = some y,
    fun i H => ∃ xs ys : List V, SqT K H a xs ∧ SqTL K k H b ys ∧ min xs.length ys.length = i⟩
def TLIter (k : Bool) (h : Heap) (it b : Addr) (i : Nat) : Prop := if k = true then h.IsTupleIter it b i else h.IsListIter it b i
theorem tl_inj {X : Cx} {pins : List (Addr × Obj)} {σ : L2.St} {H : Hp} {s : Shared} {a : Addr} {xs ys : List V} {k : Bool} (I : Inv X pins σ H s) (h : SqTL X.K k H a xs) (h' : SqTL X.K k H a ys) : xs = ys := by
  cases k with
  | true => exact I.tuple_inj h h'
  | false => exact I.list_inj h h'
/-- what a tuple's or a list's iterator draws -/
theorem tl_draws {X : Cx} {pins : List (Addr × Obj)} {σ : L2.St} {H : Hp} {s : Shared} {b it : Addr} {ys : List V} {k : Bool} (I : Inv X pins σ H s) (hh : X.A.handled = none) (h : SqTL X.K k H b ys) (hb : b ≠ it) :
    ∃ (its : List Value) (St2 : Nat → Heap → Prop), Vals ys its ∧ Draws X.prog X.w X.A.in1 it [it, b] its.toArray.size (fun i v => its.toArray[i]? = some v) St2 ∧ (∀ i, TLIter k s.heap it b i → St2 i s.heap) ∧ ∀ i h', St2 i h' → TLIter k h' it b i := by
  cases k with
  | true =>
    obtain ⟨its, rv, p, hz⟩ := I.tuple h
    exact ⟨its, fun i h => h.IsTupleIter it b i ∧ h.IsTuple b its.toArray, rv, Draws.tuple (prog := X.prog) (w := X.w) (A := X.A.in1) hh it b hb its.toArray, fun i st => ⟨st, p⟩, fun i h' st => st.1⟩
  | false =>
    obtain ⟨its, rv, p, hz⟩ := I.list h
    exact ⟨its, fun i h => h.IsListIter it b i ∧ h.IsList b its.toArray, rv, Draws.list (prog := X.prog) (w := X.w) (A := X.A.in1) hh it b hb its.toArray, fun i st => ⟨st, p.isList⟩, fun i h' st => st.1⟩
theorem TLIter.keep {k : Bool} {h h' : Heap} {it b : Addr} {i : Nat} (st : TLIter k h it b i) (q : ∀ o, h.get? it = some o → h'.get? it = some o) : TLIter k h' it b i := by
  cases k with
  | true => exact Heap.IsTupleIter.at (show h.IsTupleIter it b i from st) q
  | false => exact Heap.IsListIter.at (show h.IsListIter it b i from st) q
theorem TLIter.obj {k : Bool} {h : Heap} {it b : Addr} {i : Nat} (st : TLIter k h it b i) : ∃ o, h.get? it = some o ∧ ∀ v, o.data ≠ .cell v := by
  cases k with
  | true =>
    obtain ⟨o, e, c, d⟩ := (show h.IsTupleIter it b i from st)
    exact ⟨o, e, fun v z => by rw [d] at z; cases z⟩
  | false =>
    obtain ⟨o, e, c, d⟩ := (show h.IsListIter it b i from st)
    exact ⟨o, e, fun v z => by rw [d] at z; cases z⟩
theorem five_of {a b c d e x : Addr} (z : x ∈ [a, c, d, e]) : x ∈ [a, b, c, d, e] := by
  simp only [List.mem_cons, List.not_mem_nil, or_false] at z ⊢
  rcases z with z | z | z | z
  · exact .inl z
  · exact .inr (.inr (.inl z))
  · exact .inr (.inr (.inr (.inl z)))
  · exact .inr (.inr (.inr (.inr z)))
theorem tl_t {h : Heap} {it b : Addr} {i : Nat} (q : h.IsTupleIter it b i) : TLIter true h it b i := by
  unfold TLIter
  rw [if_pos rfl]
  exact q
theorem tl_f {h : Heap} {it b : Addr} {i : Nat} (q : h.IsListIter it b i) : TLIter false h it b i := by
  unfold TLIter
  rw [if_neg Bool.false_ne_true]
  exact q
theorem turn_zipX {P : Program} {w : World} {K : PySem.W.Frag} {elts : List Expr} {kk : Nat} {tpos : Pos} {k : Bool} (N a b : Addr) (ha : a < N) (hb : b < N) :
    Turn P w K (.Tuple elts kk tpos) (ItzX K k a b) [N + 4, N + 2, N + 3, N, N + 1] (N + 4)
      (fun i h => IsZip h (N + 4) (N + 2) (N + 3) .none ∧ IsTupOf2 h (N + 2) (.ref N) (.ref (N + 1)) ∧ (∃ x y, IsTupOf2 h (N + 3) x y) ∧ h.IsTupleIter N a i ∧ TLIter k h (N + 1) b i) where
  mem := by simp
  obj := fun i h st c hc => by
    obtain ⟨hz, hTI, ⟨x, y, hTO⟩, ⟨o1, e1, _, d1⟩, h2⟩ := st
    have e' : c = N + 4 ∨ c = N + 2 ∨ c = N + 3 ∨ c = N ∨ c = N + 1 := by simpa using hc
    rcases e' with q | q | q | q | q
    · rw [q]; exact ⟨_, hz, fun v q => nomatch q⟩
    · rw [q]; exact ⟨_, hTI, fun v q => nomatch q⟩
    · rw [q]; exact ⟨_, hTO, fun v q => nomatch q⟩
    · rw [q]; exact ⟨o1, e1, fun v q => by rw [d1] at q; cases q⟩
    · rw [q]; exact h2.obj
  keep := fun i h h' st k => by
    obtain ⟨hz, hTI, ⟨x, y, hTO⟩, h1, h2⟩ := st
    exact ⟨k _ (by simp) _ hz, k _ (by simp) _ hTI, ⟨x, y, k _ (by simp) _ hTO⟩, h1.at fun o q => k N (by simp) o q, h2.keep fun o q => k (N + 1) (by simp) o q⟩
  item := by
    intro X hP hw hK hc i pins s σ H E I hf st hg
    subst hP hw hK
    obtain ⟨hz, hTI, ⟨x0, y0, hTO⟩, h1, h2⟩ := st
    obtain ⟨xs, ys, x, y, hqx, hqy, hx, hy⟩ := hg
    obtain ⟨its, rv, p, _⟩ := I.tuple hqx
    obtain ⟨its2, St2, rv2, D2, s2, s2'⟩ := tl_draws (it := N + 1) I (I.ok.hd hc) hqy (Nat.ne_of_lt (Nat.lt_succ_of_lt hb))
    have W := GoesN.zip2 (elts := elts) (x1 := kk) (pos := tpos) (zip_sep2 (N := N) (fp1 := [a]) (fp2 := [b]) (by simpa using ha) (by simpa using hb))
      (Draws.tuple (prog := X.prog) (w := X.w) (A := X.A.in1) (I.ok.hd hc) N a (Nat.ne_of_lt ha) its.toArray) D2
    have hi1 : i < its.length := by rw [← rv.length]; exact (List.getElem?_eq_some_iff.mp hx).1
    have hi2 : i < its2.length := by rw [← rv2.length]; exact (List.getElem?_eq_some_iff.mp hy).1
    refine W.goes i s _ E (by rw [List.size_toArray, List.size_toArray]; omega) ⟨hz, hTI, ⟨x0, y0, hTO⟩, ⟨h1, p⟩, s2 i h2⟩ fun v h' tk hY st' hk htk => ?_
    obtain ⟨T, u, u2, rfl, hT, hu, hu2, hTu⟩ := hY
    obtain ⟨hz', hTI', hTO', ⟨h1', _⟩, h2'⟩ := st'
    obtain ⟨w1, hw1, ru⟩ := rv.get hx
    obtain ⟨w2, hw2, ru2⟩ := rv2.get hy
    have e1 : its[i]? = some u := by simpa using hu
    have e2 : its2[i]? = some u2 := by simpa using hu2
    rw [e1] at hw1
    rw [e2] at hw2
    cases hw1
    cases hw2
    have new : ObjOk X.prog X.w (upd H T (.tup [x, y])) h' T (.tup [x, y]) :=
      ⟨by show 2 ≤ sizeLine; decide, [u, u2], .cons ru (.cons ru2 .nil), hTu⟩
    have I1 : Inv X pins σ (upd H T (.tup [x, y])) { s with heap := h', toks := tk } := I.turnedNew (ch := [N + 4, N + 2, N + 3, N, N + 1]) (fun c o hb q => hk c o (fun z => hb (five_of z)) q) hf hT new
    have nT : ∀ b, b < s.heap.objs.size → b ≠ T := fun b hb z => by
      rw [z] at hb
      exact absurd (Nat.lt_of_lt_of_le hb hT) (Nat.lt_irrefl _)
    refine ⟨.ref T, _, I1, rfl, ⟨T, x, y, rfl, I.hok.fresh hT, rfl, fun l hl => by rw [I.tuple_inj hl hqx]; exact hx, fun l hl => by rw [tl_inj I hl hqy]; exact hy⟩, ⟨hz', hTI', hTO', h1', s2' _ _ h2'⟩, fun c hcm => ?_⟩
    have hlt : c < s.heap.objs.size := by
      have e' : c = N + 4 ∨ c = N + 2 ∨ c = N + 3 ∨ c = N ∨ c = N + 1 := by simpa using hcm
      have hl4 : N + 4 < s.heap.objs.size := Heap.lt_size hz
      have : ∀ m : Nat, m ≤ 4 → c = N + m → c < s.heap.objs.size := fun m hm e => by
        rw [e]
        exact Nat.lt_of_le_of_lt (Nat.add_le_add_left hm N) hl4
      rcases e' with q | q | q | q | q
      · exact this 4 (by omega) q
      · exact this 2 (by omega) q
      · exact this 3 (by omega) q
      · exact this 0 (by omega) q
      · exact this 1 (by omega) q
    rw [upd_ne (nT c hlt)]
    exact (hf c hcm).1
  done := by
    intro X hP hw hK hc i pins s σ H E I hf st hg
    subst hP hw hK
    obtain ⟨hz, hTI, ⟨x0, y0, hTO⟩, h1, h2⟩ := st
    obtain ⟨xs, ys, hqx, hqy, hend⟩ := hg
    obtain ⟨its, rv, p, _⟩ := I.tuple hqx
    obtain ⟨its2, St2, rv2, D2, s2, s2'⟩ := tl_draws (it := N + 1) I (I.ok.hd hc) hqy (Nat.ne_of_lt (Nat.lt_succ_of_lt hb))
    have W := GoesN.zip2 (elts := elts) (x1 := kk) (pos := tpos) (zip_sep2 (N := N) (fp1 := [a]) (fp2 := [b]) (by simpa using ha) (by simpa using hb))
      (Draws.tuple (prog := X.prog) (w := X.w) (A := X.A.in1) (I.ok.hd hc) N a (Nat.ne_of_lt ha) its.toArray) D2
    have en : i = min its.toArray.size its2.toArray.size := by rw [List.size_toArray, List.size_toArray, ← rv.length, ← rv2.length]; exact hend.symm
    subst en
    exact thn (W.stops s (fun s1 => Inv X pins σ H s1) E ⟨hz, hTI, ⟨x0, y0, hTO⟩, ⟨h1, p⟩, s2 _ h2⟩ fun h' tk hk htk => I.turnedL (ch := [N + 4, N + 2, N + 3, N, N + 1]) (fun c o hb q => hk c o (fun z => hb (five_of z)) q) hf) fun r s1 q => q
  self := fun A i s Q E st h => wpAny_pyIter_zip st.1 h
def iZipX (K : PySem.W.Frag) (ta : TA) : TI := fun σ H R => ta σ H fun vs H1 => ∃ a b xs ys k, vs = [.ref a, .ref b] ∧ SqT K H1 a xs ∧ SqTL K k H1 b ys ∧ R (ItzX K k a b) H1
theorem pi_zipX {X : Cx} {e e2 : Expr} {ta : TA} {p pos tpos : Pos} {elts : List Expr} {kk : Nat} (hg : Gl X "zip") (hm : X.mg "zip" = none) (ha : PA X [e, e2] ta)
    (hs : starEach [e, e2] X.env = (false, eval e X.env) :: starEach [e2] X.env := by rfl) (hpl : (backTo pos (starEach [e2] X.env)).any (·.1) = false := by rfl) :
    PI X (.Tuple elts kk tpos) (.Call (.Name "zip" p) [e, e2] [] pos) (iZipX X.K ta) := by
  refine ⟨fun pins s σ H R I h => ?_⟩
  refine Call_ (ld_blt I hg hm PyProof.Rows.boot_zip (PyProof.Rows.callWith_type1 (thn (ha.run pos pins s σ H _ I h) fun us s1 ⟨vs, H1, I1, r1, q1⟩ => ?_) hs hpl))
  obtain ⟨a, b, xs, ys, k, ex, hqx, hqy, q⟩ := q1
  subst ex
  cases r1 with
  | cons r rr =>
    cases rr with
    | cons r' rr =>
      cases rr
      cases r
      cases r'
      have fresh5 : ∀ c, c ∈ [s1.heap.objs.size + 4, s1.heap.objs.size + 2, s1.heap.objs.size + 3, s1.heap.objs.size, s1.heap.objs.size + 1] → FpOk X pins H1 c := fun c hcm => by
        have e' : c = s1.heap.objs.size + 4 ∨ c = s1.heap.objs.size + 2 ∨ c = s1.heap.objs.size + 3 ∨ c = s1.heap.objs.size ∨ c = s1.heap.objs.size + 1 := by simpa using hcm
        have hle : s1.heap.objs.size ≤ c := by
          rcases e' with z | z | z | z | z
          · rw [z]; exact Nat.le_add_right _ _
          · rw [z]; exact Nat.le_add_right _ _
          · rw [z]; exact Nat.le_add_right _ _
          · rw [z]; exact Nat.le_refl _
          · rw [z]; exact Nat.le_add_right _ _
        exact I1.fpOk hle (I1.hok.fresh hle)
      obtain ⟨its, rv, p1, _⟩ := I1.tuple hqx
      have al := sqT_lt I1 hqx
      cases k with
      | true =>
        obtain ⟨its2, rv2, p2, _⟩ := I1.tuple hqy
        have bl := sqT_lt I1 hqy
        refine zip_begins2 (begins_tuple a its.toArray) (begins_tuple b its2.toArray) p1 p2 fun h' hz hTI hTO h1 h2 hsz hk => wpAny_pyIter_zip hz ?_
        have I2 : Inv X pins σ H1 { s1 with heap := h' } := I1.kept (t' := s1.toks) hk
        exact ⟨s1.heap.objs.size + 4, [s1.heap.objs.size + 4, s1.heap.objs.size + 2, s1.heap.objs.size + 3, s1.heap.objs.size, s1.heap.objs.size + 1], _, _, H1, rfl, I2, turn_zipX (k := true) s1.heap.objs.size a b al bl, ⟨hz, hTI, ⟨_, _, hTO⟩, ⟨_, h1, rfl, rfl⟩, tl_t ⟨_, h2, rfl, rfl⟩⟩, fresh5, q⟩
      | false =>
        obtain ⟨its2, rv2, p2, _⟩ := I1.list hqy
        have bl := sqL_lt I1 hqy
        refine zip_begins2 (begins_tuple a its.toArray) (begins_list b its2.toArray) p1 p2.isList fun h' hz hTI hTO h1 h2 hsz hk => wpAny_pyIter_zip hz ?_
        have I2 : Inv X pins σ H1 { s1 with heap := h' } := I1.kept (t' := s1.toks) hk
        exact ⟨s1.heap.objs.size + 4, [s1.heap.objs.size + 4, s1.heap.objs.size + 2, s1.heap.objs.size + 3, s1.heap.objs.size, s1.heap.objs.size + 1], _, _, H1, rfl, I2, turn_zipX (k := false) s1.heap.objs.size a b al bl, ⟨hz, hTI, ⟨_, _, hTO⟩, ⟨_, h1, rfl, rfl⟩, tl_f ⟨_, h2, rfl, rfl⟩⟩, fresh5, q⟩

/-! ### any list, tuple or text -/
def iAny (K : PySem.W.Frag) (tl : TE) : TI := fun σ H R => tl σ H fun x H1 => (∃ a, x = .ref a ∧ (∃ xs, SqT K H1 a xs) ∧ R (Itt K a) H1) ∨ (∃ a, x = .ref a ∧ (∃ xs, SqL K H1 a xs) ∧ R (Itl K a) H1) ∨ ∃ z, x = .str z ∧ R (Its z) H1
theorem pi_any {X : Cx} {tg l : Expr} {tl : TE} (hl : PE X l tl) : PI X tg l (iAny X.K tl) := by
  refine ⟨fun pins s σ H R I h => ?_⟩
  refine thn (hl.run pins s σ H _ I h) fun v s1 ⟨x, H1, I1, r1, q1⟩ => ?_
  rcases q1 with ⟨a, e, ⟨xs, hq⟩, q⟩ | ⟨a, e, ⟨xs, hq⟩, q⟩ | ⟨z, e, q⟩
  · subst e
    cases r1
    obtain ⟨its, rv, p, hz⟩ := I1.tuple hq
    refine wpAny_pyIter_tuple (show s1.heap.IsTuple a its.toArray from p) ?_
    refine ⟨s1.heap.objs.size, [s1.heap.objs.size], _, _, H1, rfl, I1.kept (t' := s1.toks) fun b o e => Heap.get?_push_of_some _ e, turn_tuple a _, ⟨_, Heap.get?_push_size _ rfl, rfl, rfl⟩, fun b hb => ?_, q⟩
    have e : b = s1.heap.objs.size := by simpa using hb
    subst e
    exact I1.fpOk (Nat.le_refl _) (I1.hok.fresh (Nat.le_refl _))
  · subst e
    cases r1
    obtain ⟨its, rv, p, hz⟩ := I1.list hq
    refine wpAny_pyIter_list p.isList ?_
    refine ⟨s1.heap.objs.size, [s1.heap.objs.size], _, _, H1, rfl, I1.kept (t' := s1.toks) fun b o e => Heap.get?_push_of_some _ e, turn_list a _, ⟨_, Heap.get?_push_size _ rfl, rfl, rfl⟩, fun b hb => ?_, q⟩
    have e : b = s1.heap.objs.size := by simpa using hb
    subst e
    exact I1.fpOk (Nat.le_refl _) (I1.hok.fresh (Nat.le_refl _))
  · subst e
    obtain ⟨t, rfl⟩ := r1
    cases ha : z.cps.all (· < 128)
    · exact wpAny_pyIter_wide ha (pi_one (tk := s1.toks) I1 _ (turn_str _ z t "str_iterator" (.inr rfl)) ⟨_, Heap.get?_push_size _ rfl, rfl, rfl⟩ q)
    · exact wpAny_pyIter_ascii ha (pi_one (tk := s1.toks) I1 _ (turn_str _ z t "str_ascii_iterator" (.inl rfl)) ⟨_, Heap.get?_push_size _ rfl, rfl, rfl⟩ q)
end Ts
set_option Elab.async false
set_option linter.all false
set_option maxRecDepth 100000
set_option maxHeartbeats 2000000
/-! Operators that the layer has not: < of data, in of any kind, dict(a tuple of pairs), sorted of data, t[::-1]. -/
namespace Ts
open PySem PySem.Spec PyProof.Rows L2

section
variable {X : Cx} {pos : Pos}
/-! ### < of alike data -/
def rLtD (K : PySem.W.Frag) : R2 := fun x y H Q => ∃ d e, Dp K H x d ∧ Dp K H y e ∧ PySem.W.alike d e = true ∧ d ≠ .none ∧ d.depth ≤ 60 ∧ Q (.bl (PySem.W.dataLt d e)) H
theorem op_ltD (hu : X.A.units + 64 < cLine) : OpR X (compareOp .Lt) (rLtD X.K) := by
  intro pins s σ H x y v u Q I rx ry h
  obtain ⟨d, e, hd, he, hal, hn, hdp, q⟩ := h
  obtain ⟨as, r1⟩ := Dp.reads I d x v hd rx
  obtain ⟨bs, r2⟩ := Dp.reads I e y u he ry
  have hm : min d.depth e.depth ≤ d.depth := Nat.min_le_left _ _
  have q' : EP X pins σ Q (.bool (PySem.W.dataLt d e)) s := ⟨.bl _, H, I, rfl, q⟩
  exact PySem.W.rcLt_alike d e X.A s v u as bs r1 r2 hal hn (by omega) X.prog X.w X.xe _ q'

/-! ### in, not in -/
def rInSg (neg : Bool) : R2 := fun x y H Q => ∃ (c : Nat) (z : Str), x = .str ⟨#[c]⟩ ∧ y = .str z ∧ Q (.bl (if neg then !decide (c ∈ z.cps.toList) else decide (c ∈ z.cps.toList))) H
def rInLs (K : PySem.W.Frag) (neg : Bool) : R2 := fun x y H Q => ∃ d ds, Dp K H x d ∧ Dp K H y (.list ds) ∧ SeqAt.shaped d = true ∧ SeqAt.shaped (.list ds) = true ∧ Q (.bl (if neg then !(ds.any fun z => PyData.eqv z d) else ds.any fun z => PyData.eqv z d)) H
def rInDc (neg : Bool) : R2 := fun x y H Q => ∃ a o, y = .ref a ∧ DGet H a x o ∧ Q (.bl (if neg then !o.isSome else o.isSome)) H
def rInA (K : PySem.W.Frag) (neg : Bool) : R2 := fun x y H Q => rInSg neg x y H Q ∨ (rInLs K neg x y H Q ∨ (rIn K neg x y H Q ∨ rInDc neg x y H Q))
theorem op_inDc (hu : X.A.units + 64 < cLine) : OpR X (compareOp .In) (rInDc false) := by
  intro pins s σ H x y v u Q I rx ry h
  obtain ⟨a, o, rfl, g, q⟩ := h
  cases ry
  exact d_in (by omega) I g rx fun s' I' => ⟨.bl _, H, I', rfl, q⟩
theorem op_notInDc (hu : X.A.units + 64 < cLine) : OpR X (compareOp .NotIn) (rInDc true) := by
  intro pins s σ H x y v u Q I rx ry h
  obtain ⟨a, o, rfl, g, q⟩ := h
  cases ry
  exact d_notIn (by omega) I g rx fun s' I' => ⟨.bl _, H, I', rfl, q⟩
theorem op_inA (hu : X.A.units + 65 < cLine) : OpR X (compareOp .In) (rInA X.K false) :=
  OpR.or (r := rInSg false) op_in_sign (OpR.or (r := rInLs X.K false) (op_inD hu) (OpR.or op_in_seq (op_inDc (by omega))))
theorem op_notInA (hu : X.A.units + 65 < cLine) : OpR X (compareOp .NotIn) (rInA X.K true) :=
  OpR.or (r := rInSg true) op_notIn_sign (OpR.or (r := rInLs X.K true) (op_notInD hu) (OpR.or op_notIn_seq (op_notInDc (by omega))))

/-! ### + -/
def rPlus (K : PySem.W.Frag) : R2 := fun x y H Q => rI0 (fun i j => .int (i + j)) x y H Q ∨ (rCatA K x y H Q ∨ rCat x y H Q)
theorem op_plus : OpR X (binaryOp .Add) (rPlus X.K) := op_add.or (op_catA.or op_cat)

/-! ### (a, b, ..): the object is known -/
def tTupF (t : TA) : TE := fun σ H Q => t σ H fun xs H1 => xs.length ≤ sizeLine ∧ ∀ p o, o.cls = .type "tuple" → o.dict = none → H1 p = none → Q (.ref p) (upd H1 p (.frz o (.tup xs)))
theorem pe_tupF {es : List Expr} {t : TA} {x1} (h : PA X es t) : PE X (.Tuple es x1 pos) (tTupF t) := by
  refine ⟨fun pins s σ H Q I hq => ?_⟩
  refine wpAny_Tuple_spliced (thn (h.run pos pins s σ H _ I hq) fun us s1 ⟨xs, H1, I1, r, z, q⟩ => ⟨by rw [← r.length]; exact z, ?_⟩)
  have hf : H1 s1.heap.objs.size = none := I1.hok.fresh (Nat.le_refl _)
  have hk : ∀ b u, s1.heap.get? b = some u → (s1.heap.push { cls := .type "tuple", data := .seq us.toArray }).get? b = some u := fun b u e => Heap.get?_push_of_some _ e
  refine ⟨.ref s1.heap.objs.size, upd H1 s1.heap.objs.size (.frz { cls := .type "tuple", data := .seq us.toArray } (.tup xs)), I1.laid (t' := s1.toks) hk (Nat.le_refl _) ?_, rfl, q _ _ rfl rfl hf⟩
  exact ⟨Heap.get?_push_size _ rfl, z, us, r, ⟨_, Heap.get?_push_size _ rfl, rfl, _, rfl⟩⟩

/-! ### dict(t), t a tuple of pairs -/
def rDictT (K : PySem.W.Frag) : List V → Hp → VK → Prop := fun xs H Q => ∃ (a : Addr) (o : Obj) (ps : List Addr) (kvs : List (L2.Key × V)), xs = [.ref a] ∧ H a = some (.frz o (.tup (ps.map V.ref))) ∧ o.dict = none ∧ o.cls = .type "tuple" ∧ Paired (fun p kv => SqT K H p [kV kv.1, kv.2]) ps kvs ∧
    ∀ p, H p = none → Q (.ref p) (upd H p (.dK (mergeK [] kvs)))
theorem call_dictT (hcalm : X.calm = true) : CallR X (.type "dict") (rDictT X.K) := by
  intro pins s σ H xs us Q I r q
  obtain ⟨a, o, ps, kvs, ex, hq, hod, hoc, hp, q⟩ := q
  subst ex
  obtain ⟨u, eu, rx⟩ := vals1 r
  subst eu
  cases rx
  obtain ⟨his, hz, its, rv, o2, ho2, hc2, n2, hd2⟩ := (show ObjOk X.prog X.w H s.heap a (.frz o (.tup (ps.map V.ref))) from I.hok a _ hq)
  rw [his] at ho2
  cases ho2
  have ei := refs_at rv
  subst ei
  rw [List.length_map] at hz
  obtain ⟨prs, rel, hl, hpr⟩ := pairs_of I hp
  -- the pairs as values: their keys
  have key : ∃ prv : List (Value × Value), prv.length = prs.length ∧ ∀ (j : Nat) k v, prv[j]? = some (k, v) → ∃ q : L2.Key × Value, prs[j]? = some q ∧ q.2 = v ∧ keyIs q.1 k = true ∧ ∃ b, ps[j]? = some b ∧ IsTup s.heap b #[k, v] := by
    have each : ∀ j : Nat, ∃ kv : Value × Value, j < prs.length → ∃ q : L2.Key × Value, prs[j]? = some q ∧ q.2 = kv.2 ∧ keyIs q.1 kv.1 = true ∧ ∃ b, ps[j]? = some b ∧ IsTup s.heap b #[kv.1, kv.2] := fun j => by
      by_cases hj : j < prs.length
      · obtain ⟨b, u, e1, e2, e3⟩ := hpr j prs[j] (List.getElem?_eq_getElem hj)
        exact ⟨(u, prs[j].2), fun _ => ⟨prs[j], List.getElem?_eq_getElem hj, rfl, e3, b, e1, e2⟩⟩
      · exact ⟨(.none, .none), fun h => absurd h hj⟩
    refine ⟨(List.range prs.length).map fun j => (each j).choose, by rw [List.length_map, List.length_range], fun j k v e => ?_⟩
    rw [List.getElem?_map] at e
    by_cases hj : j < prs.length
    · rw [List.getElem?_range hj] at e
      have e' : (each j).choose = (k, v) := Option.some.inj e
      have h := (each j).choose_spec hj
      rw [e'] at h
      exact h
    · rw [List.getElem?_eq_none (by rw [List.length_range]; omega)] at e
      cases e
  obtain ⟨prv, lv, hv⟩ := key
  have Ts : Nat → Addr := fun _ => a
  let Tf : Nat → Addr := fun j => (ps[j]?).getD 0
  have hlen : prv.length = ps.length := lv.trans hl
  refine PySem.call_dict_pairs (knd := mixKind X.prog X.w) (kvs := prs) (PairArg.tuple a (ps.map Value.ref).toArray Tf prv) (I.ok.hd hcalm) ⟨⟨o, n2, his, hoc, hod, hd2⟩, by rw [List.size_toArray, List.length_map]; exact hlen.symm, fun j k v e => ?_⟩ ⟨lv.symm, fun i key v e => ?_⟩ (by rw [hlen]; exact hz) fun h' tk hd' k => ?_
  · obtain ⟨q, e1, e2, e3, b, e4, e5⟩ := hv j k v e
    have eT : Tf j = b := by show (ps[j]?).getD 0 = b; rw [e4]; rfl
    rw [eT]
    exact ⟨by simp [e4], .inl e5⟩
  · obtain ⟨q, e1, e2, e3, _⟩ := hv i key v e
    refine ⟨q.1, ?_, e3⟩
    rw [e1, ← e2]
  · have hm : (s.heap.objs.size == sysModules) = false := beq_eq_false_iff_ne.mpr (Nat.ne_of_gt I.big)
    have hlen2 : (mergeK [] kvs).length ≤ sizeLine := by
      refine Nat.le_trans (length_mergeK kvs []) ?_
      rw [List.length_nil, Nat.zero_add, rel.length, hl]
      exact hz
    exact ⟨.ref s.heap.objs.size, L2.upd H s.heap.objs.size (.dK (mergeK [] kvs)), I.laid (t' := tk) (fun b u e => k b u (by simp) e) (Nat.le_refl _) (show ObjOk X.prog X.w _ _ _ (.dK (mergeK [] kvs)) from ⟨hlen2, hm, merged [] prs, KV.merge rel .nil, hd'⟩), rfl, q _ (I.hok.fresh (Nat.le_refl _))⟩

/-! ### sorted(xs) of data -/
theorem each_of {K : PySem.W.Frag} {H : Hp} : ∀ {ds : List PyData} {vs : List V} {us : List Value}, DpAll K H vs ds → Vals vs us → PySem.W.EachIs (fun u d => ∃ v, RelV v u ∧ Dp K H v d) us ds
  | [], _, _, h, r => by
    cases h
    cases r
    exact .nil
  | d :: ds, _, _, h, r => by
    cases h with
    | cons h1 h2 =>
      cases r with
      | cons r1 r2 => exact .cons ⟨_, r1, h1⟩ (each_of h2 r2)
theorem of_each {K : PySem.W.Frag} {H : Hp} : ∀ {ds : List PyData} {us : List Value}, PySem.W.EachIs (fun u d => ∃ v, RelV v u ∧ Dp K H v d) us ds → ∃ vs, Vals vs us ∧ DpAll K H vs ds
  | _, _, .nil => ⟨[], .nil, .nil⟩
  | _, _, .cons ⟨v, r, d⟩ t => let ⟨vs, a, b⟩ := of_each t; ⟨v :: vs, .cons r a, .cons d b⟩
def rSortD (K : PySem.W.Frag) : List V → Hp → VK → Prop := fun xs H Q => ∃ (a : Addr) (zs : List V) (ds : List PyData) (B : Hp), xs = [.ref a] ∧ SqL K H a zs ∧ DpAll K H zs ds ∧ DpAll K B zs ds ∧ PySem.W.AllAlike ds ∧ PySem.W.Sortable ds ∧ (∀ d ∈ ds, d.depth ≤ 60) ∧
  ∀ p ys, H p = none → DpAll K B ys (ds.mergeSort (PySem.W.dataLe false id)) → Q (.ref p) (upd H p (.lst ys))
theorem cr_sortD (hu : X.A.units + 64 < cLine) : CallR X (.builtin "sorted") (rSortD X.K) := by
  intro pins s σ H xs us Q I r h
  obtain ⟨a, zs, ds, B, rfl, hs, ha, haB, hal, hk, hdp, q⟩ := h
  rw [Vals.ref1 r]
  obtain ⟨its, rv, hl, hz⟩ := I.list hs
  have hlen := dpAll_len ha
  have e0 := each_of haB rv
  have er : PySem.W.EachIs (fun v b => ∃ as, Reads s.heap v (id b) as) its ds := (each_of ha rv).mono fun u d ⟨v, rv, dv⟩ => Dp.reads I d v u dv rv
  refine PySem.W.sorted_data (enc := id) (R := fun u d => ∃ v, RelV v u ∧ Dp X.K B v d) hl.isList e0 er (by rw [List.map_id]; exact hal) (by rw [List.map_id]; exact hk) (by rw [← hlen]; exact hz) (fun b hb => by have := hdp b hb; show X.A.units + 2 + b.depth < cLine; omega) fun out ho heach => ?_
  obtain ⟨ys, r2, d2⟩ := of_each heach
  obtain ⟨ep, he'⟩ := PyProof.Rows.sortedAll_at s.heap its out.toArray
  have hlen2 : ys.length ≤ sizeLine := by
    rw [dpAll_len d2, List.length_mergeSort, ← hlen]
    exact hz
  exact ⟨.ref _, L2.upd H (s.heap.objs.size + 1) (.lst ys), I.laid (t' := s.toks) (fun _ _ => PyProof.Rows.sortedAll_old) (Nat.le_succ _) ⟨hlen2, out, ep, r2, he'⟩, rfl, q _ ys (I.hok.fresh (Nat.le_succ _)) d2⟩

/-! ### t[::-1], t a tuple -/
section
variable {prog : Program} {w : World} {A : Around} {E : Value → Shared → Prop} {s : Shared}
theorem sliceApplied_rev {sl : Addr} {vl vu vs : Value} {n : Nat} {Q : Int × Int × Nat → Shared → Prop} (hs : s.heap.IsSliceOf sl vl vu vs) (pl : IsPart vl none) (pu : IsPart vu none) (ps : IsPart vs (some (-1)))
    (h : Q ((n : Int) - 1, -1, n) s) : wpAny (model prog w) A (Builtin.Slice.sliceApplied (.ref sl) (pure (n : Int))) Q E s := by
  obtain ⟨os, hos, hcs, hds⟩ := id hs
  unfold Builtin.Slice.sliceApplied Builtin.Slice.sliceFields
  refine wpAny_bind (wpAny_bind (wpAny_field hos hds (x := vl) rfl (wpAny_bind (wpAny_field hos hds (x := vu) rfl (wpAny_bind (wpAny_field hos hds (x := vs) rfl (wpAny_pure ?_)))))))
  refine wpAny_bind (HT.slicePart_ ps ?_)
  show wpAny _ _ (if ((-1 : Int) == 0) = true then _ else _) _ _ s
  rw [if_neg (by decide)]
  refine wpAny_bind (HT.slicePart_ pl (wpAny_bind (HT.slicePart_ pu (wpAny_bind (wpAny_pure ?_)))))
  show wpAny _ _ (match Builtin.Slice.sliceAdjust none none (-1) n with | (lo, hi) => pure (lo, (-1 : Int), Builtin.Slice.slicePlaces lo hi (-1))) _ _ s
  have ea : Builtin.Slice.sliceAdjust none none (-1) (n : Int) = ((n : Int) - 1, -1) := by
    unfold Builtin.Slice.sliceAdjust
    simp
  rw [ea]
  show wpAny _ _ (pure ((n : Int) - 1, (-1 : Int), Builtin.Slice.slicePlaces ((n : Int) - 1) (-1) (-1))) _ _ s
  have ep : Builtin.Slice.slicePlaces ((n : Int) - 1) (-1) (-1) = n := by
    unfold Builtin.Slice.slicePlaces
    have h1 : ¬ ((-1 : Int) > 0) := by decide
    simp only [h1, if_false]
    by_cases hn : (n : Int) - 1 > -1
    · rw [if_pos hn]
      have e : ((n : Int) - 1 - -1 - 1) / (- -1) + 1 = (n : Int) := by
        rw [show (- -1 : Int) = 1 by decide, Int.ediv_one]
        omega
      rw [e, Int.toNat_natCast]
    · rw [if_neg hn]
      have : n = 0 := by omega
      subst this
      rfl
  rw [ep]
  exact wpAny_pure h
theorem fm_congr {α β : Type} {f g : α → Option β} : ∀ l : List α, (∀ x ∈ l, f x = g x) → l.filterMap f = l.filterMap g
  | [], _ => rfl
  | x :: l, h => by
    rw [List.filterMap_cons, List.filterMap_cons, h x List.mem_cons_self, fm_congr l fun y hy => h y (List.mem_cons_of_mem _ hy)]
theorem pick_rev (xs : Array Value) : ((List.range xs.size).filterMap fun (m : Nat) => xs[(((xs.size : Int) - 1) + (m : Int) * -1).toNat]?).toArray = xs.toList.reverse.toArray := by
  have e : ((List.range xs.size).filterMap fun (m : Nat) => xs[(((xs.size : Int) - 1) + (m : Int) * -1).toNat]?) = ((List.range xs.size).map fun k => xs.size - 1 - k).filterMap (xs[·]?) := by
    rw [List.filterMap_map]
    apply fm_congr
    intro m hm
    have h1 := List.mem_range.mp hm
    show xs[(((xs.size : Int) - 1) + (m : Int) * -1).toNat]? = xs[xs.size - 1 - m]?
    congr 1
    omega
  rw [e, PySem.W.krv_range, List.filterMap_reverse, PySem.W.krv_all]
theorem getItem_tuple_rev {t sl : Addr} {items : Array Value} {vl vu vs : Value} {Q : Value → Shared → Prop} (ht : IsTup s.heap t items) (hs : s.heap.IsSliceOf sl vl vu vs) (pl : IsPart vl none) (pu : IsPart vu none) (ps : IsPart vs (some (-1)))
    (h : Q (.ref s.heap.objs.size) { s with heap := s.heap.push { cls := .type "tuple", data := .seq items.toList.reverse.toArray } })
    (hsz : items.size ≤ sizeLine) : wpAny (model prog w) A (getItem (.ref t) (.ref sl)) Q E s := by
  have htake : sizeOk (.seq items.toList.reverse.toArray) := by
    show items.toList.reverse.toArray.size ≤ sizeLine
    rw [List.size_toArray, List.length_reverse, Array.length_toList]
    exact hsz
  obtain ⟨os, hos, hcs, hds⟩ := id hs
  have hTs : s.TypeIs (.ref sl) "slice" := ⟨os, hos, hcs⟩
  unfold getItem
  try with_reducible refine wpAny_holding ?_
  first | refine wpAny_bind (wpAny_pure ?_) | skip
  refine wpAny_bind (wpAny_sequenceKey ht.typeIs (by decide) ?_)
  refine wpAny_bind (wpAny_callSpecial?_slot (name := Str.ofString "__getitem__") ht.typeIs PyProof.Rows.slot_tuple_getitem
    (wpAny_call_entry PyProof.Rows.slot_tuple_getitem ht.typeIs entry_tuple_getitem ?_ (args_tuple_getitem _ _)))
  show wpAny _ _ (Builtin.Tuple.tupleItemsOf (.ref t) >>= _) _ _ s
  refine wpAny_bind (tupleItemsOf_ ht ?_)
  refine wpAny_bind (wpAny_typeOf hTs ?_)
  rw [if_pos (by decide)]
  refine wpAny_bind (sliceApplied_rev hs pl pu ps ?_)
  have hno : ¬ ((((items.size : Int) - 1 == 0) && ((-1 : Int) == 1) && (items.size == items.size)) = true) := by
    intro q
    rw [Bool.and_eq_true, Bool.and_eq_true] at q
    exact absurd (eq_of_beq q.1.2) (by decide)
  show wpAny _ _ (if (((items.size : Int) - 1 == 0) && ((-1 : Int) == 1) && (items.size == items.size)) = true then _ else _) _ _ s
  rw [if_neg hno, pick_rev]
  first
    | exact wpAny_bind (m := Builtin.Tuple.tupleExact _) (wpAny_newObj_type (wpAny_pure ⟨_, rfl, wpAny_pure h⟩) htake)
    | exact wpAny_bind (m := Builtin.Tuple.tupleExact _) (wpAny_newObj_type (wpAny_bind (wpAny_pure (wpAny_pure ⟨_, rfl, wpAny_pure h⟩))) htake)
    | exact wpAny_bind (wpAny_bind (m := Builtin.Tuple.tupleExact _) (wpAny_newObj_type (wpAny_pure (wpAny_pure ⟨_, rfl, wpAny_pure h⟩)) htake))
    | exact wpAny_bind (wpAny_bind (m := Builtin.Tuple.tupleExact _) (wpAny_newObj_type (wpAny_pure ⟨_, rfl, wpAny_pure h⟩) htake))
end
def tRevT (K : PySem.W.Frag) (te : TE) : TE := fun σ H Q => te σ H fun x H1 => ∃ a xs, x = .ref a ∧ SqT K H1 a xs ∧ ∀ p, H1 p = none → Q (.ref p) (upd H1 p (.tup xs.reverse))
theorem pe_revT {e : Expr} {te : TE} {k : Nat} {p1 p2 p3 : Pos} (he : PE X e te) : PE X (.Subscript e (.Slice none none (some (.UnaryOp .USub (.Constant (.int 1) k p1) p2)) p3) pos) (tRevT X.K te) := by
  refine ⟨fun pins s σ H Q I h => ?_⟩
  refine Subscript_ (thn (he.run pins s σ H _ I h) fun v s1 ⟨x, H1, I1, r1, q1⟩ => ?_)
  obtain ⟨a, xs, ex, hx, q⟩ := q1
  subst ex
  cases r1
  have hst : PO X (some (.UnaryOp .USub (.Constant (.int 1) k p1) p2)) (tPart (tUn (rU fun i => .int (-i)) (tC (.int 1)))) := po_some (pe_un un_neg pe_int)
  refine wpAny_Slice (thn (po_none.run pins s1 σ H1 (fun o H2 => o = none ∧ H2 = H1) I1 ⟨rfl, rfl⟩) fun vl s2 ⟨l, H2, I2, pl, el, e2⟩ => ?_)
  subst el e2
  refine thn (po_none.run pins s2 σ H2 (fun o H3 => o = none ∧ H3 = H2) I2 ⟨rfl, rfl⟩) fun vu s3 ⟨u, H3, I3, pu, eu, e3⟩ => ?_
  subst eu e3
  refine thn (hst.run pins s3 σ H3 (fun o H4 => o = some (-1) ∧ H4 = H3) I3 ⟨1, rfl, -1, rfl, rfl, rfl⟩) fun vs s4 ⟨o, H4, I4, ps, eo, e4⟩ => ?_
  subst eo e4
  have I5 : Inv X pins σ H4 { s4 with heap := s4.heap.push { cls := .type "slice", data := .fields #[vl, vu, vs] } } := I4.kept (t' := s4.toks) fun b ob q => Heap.get?_push_of_some _ q
  obtain ⟨its, r, ht, hz⟩ := I5.tuple hx
  have hlen := r.length
  show wpAny (model X.prog X.w) X.A (subscriptTail e (.Slice none none (some (.UnaryOp .USub (.Constant (.int 1) k p1) p2)) p3) (.ref a) (.ref s4.heap.objs.size)) (EP X pins σ Q) X.xe { s4 with heap := s4.heap.push { cls := .type "slice", data := .fields #[vl, vu, vs] } }
  refine tail_any (ops := [.ref a, .ref s4.heap.objs.size]) ht.typeIs PyProof.Rows.slot_tuple_getitem.lookup ?_ (by with_unfolding_all rfl)
  refine getItem_tuple_rev ht (Heap.IsSliceOf.new _ vl vu vs) pl pu ps ?_ (by rw [List.size_toArray]; omega)
  refine ⟨.ref _, _, I5.laid (t' := s4.toks) (o := .tup xs.reverse) (fun b ob q => Heap.get?_push_of_some _ q) (Nat.le_refl _) ?_, rfl, q _ (I5.hok.fresh (Nat.le_refl _))⟩
  exact ⟨by rw [List.length_reverse]; exact hz, _, r.reverse, IsTup.new _ _⟩
end
end Ts
set_option Elab.async false
set_option linter.all false
set_option maxRecDepth 100000
set_option maxHeartbeats 2000000
/-! Loops, comprehensions, what is walked; operators and calls over data. -/
namespace Ts
open PySem PySem.Spec PyProof.Rows L2

section
variable {K : PySem.W.Frag} {F : Fx} {r r1 r2 : PEnv} {te ta tb tc tl : TE} {tt tu : TT} {d a b c : PyData} {P : Hp → V → Prop} {ds es items : List PyData} {wi : TI} {g : TG} {t u : TS} {E : Pst} {vs : List Nat}

/-! ### walks -/
theorem WalkD.walk {J : It} {G : Hp → Hp → Prop} (w : WalkD K J items G) :
    Walk J items.length (fun H => ∃ B, G B H) (fun i H x H' => ∀ B, G B H → Same B H → ∃ B' d, Grow B H B' H' ∧ items[i]? = some d ∧ Dp K B' x d) :=
  ⟨fun i H hi ⟨B, q⟩ => w.goes i B H hi q, fun H ⟨B, q⟩ => w.stops B H q, fun i H x H' hi _ y B q s => w.yields i B H x H' hi q s y⟩
/-- a for: R tells the names ahead of each turn -/
theorem run_for (R : Nat → PEnv) (hi : RunI K F wi r items) (h0 : Le (R 0) r)
    (ht : ∀ (i : Nat) (d : PyData), items[i]? = some d → ∃ r1, RunG K F vs g d (R i) r1 ∧ RunS K F t r1 { E with nx := fun r' => Le (R (i + 1)) r', ct := fun r' => Le (R (i + 1)) r', bk := E.nx }) (hd : E.nx (R items.length)) :
    RunS K F (tFor wi g t) r E := fun s B H ok D hn hr hb hc =>
  hi s B H ok _ fun J G B1 H1 g1 hG hst w => by
    refine for_it w.walk (fun i s' Hc => ∃ Bc, EnvOk K F Bc Hc s' (R i) ∧ G Bc Hc ∧ Same B Bc) ⟨B1, (ok.grow g1).weak h0, hG, g1.bb⟩ (fun i s' Hc _ ⟨Bc, _, q, _⟩ => ⟨Bc, q⟩) (fun i x s' Hc H' hi ⟨Bc, ok', q, sb⟩ y => ?_) (fun s' Hc ⟨Bc, ok', q, sb⟩ => hn s' Bc Hc _ hd ok' sb)
    obtain ⟨B', d, gr, hdi, dx⟩ := y Bc q ok'.bh
    obtain ⟨r1, hg, hbody⟩ := ht i d hdi
    refine hg s' B' H' x (ok'.grow gr) dx _ fun s2 ok2 _ => ?_
    refine hbody s2 B' H' ok2 _ (fun s3 B3 H3 r3 le ok3 sb3 => ⟨B3, ok3.weak le, hst _ _ _ _ q (gr.bb.trans sb3) ok3.bh, sb.trans (gr.bb.trans sb3)⟩) (fun v s3 B3 H3 r3 q3 ok3 sb3 => hr v s3 B3 H3 r3 q3 ok3 (sb.trans (gr.bb.trans sb3)))
      (fun s3 B3 H3 r3 q3 ok3 sb3 => hn s3 B3 H3 r3 q3 ok3 (sb.trans (gr.bb.trans sb3))) (fun s3 B3 H3 r3 le ok3 sb3 => ⟨B3, ok3.weak le, hst _ _ _ _ q (gr.bb.trans sb3) ok3.bh, sb.trans (gr.bb.trans sb3)⟩)
/-- a loop over data of a kind -/
theorem run_forM {al : Type} (l : List al) (enc : al → PyData) (R : Nat → PEnv) (hi : RunI K F wi r (l.map enc)) (h0 : Le (R 0) r)
    (ht : ∀ (i : Nat) (x : al), l[i]? = some x → ∃ r1, RunG K F vs g (enc x) (R i) r1 ∧ RunS K F t r1 { E with nx := fun r' => Le (R (i + 1)) r', ct := fun r' => Le (R (i + 1)) r', bk := E.nx }) (hd : E.nx (R l.length)) :
    RunS K F (tFor wi g t) r E := by
  refine run_for (vs := vs) R hi h0 (fun i d e => ?_) (by rw [List.length_map]; exact hd)
  rw [List.getElem?_map] at e
  obtain ⟨x, hx, rfl⟩ := Option.map_eq_some_iff.mp e
  exact ht i x hx
/-- a comprehension -/
theorem run_lc {al : Type} (l : List al) (enc : al → PyData) (p : al → Bool) (out : al → PyData) (hi : RunI K F wi r (l.map enc)) (hn : l.length ≤ 100000)
    (ht : ∀ (i : Nat) (x : al), l[i]? = some x → ∃ r1, RunG K F vs g (enc x) (wipeR r vs) r1 ∧ RunT K F tt r1 (p x) ∧ (p x = true → RunE K F te r1 (out x))) :
    RunL K F (tLc wi g tt te vs) r ((l.filter p).map out) := fun s B H ok Q q =>
  hi s B H ok _ fun J G B1 H1 g1 hG hst w D hD => by
    have outs : ∀ (i : Nat) (x : al), l[i]? = some x → ((l.take (i + 1)).filter p).map out = ((l.take i).filter p).map out ++ (if p x = true then [out x] else []) := fun i x hx => by
      rw [List.take_add_one, hx, List.filter_append, List.map_append]
      congr 1
      show List.map out (List.filter p [x]) = _
      by_cases hp : p x = true
      · rw [List.filter_cons_of_pos hp, if_pos hp] <;> rfl
      · rw [List.filter_cons_of_neg hp, if_neg hp] <;> rfl
    refine lc_it w.walk (fun i Hc => ∃ Bc xs, Grow B1 H1 Bc Hc ∧ Bc D = none ∧ Hc D = some (.lst xs) ∧ DpAll K Bc xs (((l.take i).filter p).map out)) ⟨B1, [], Grow.out g1.bh hD, g1.bh.free hD, upd_same, .nil⟩ (fun i Hc _ ⟨Bc, xs, gr, _⟩ => ⟨Bc, hst _ _ _ _ hG gr.bb gr.bh⟩) (fun i x Hc H' hlt ⟨Bc, xs, gr, b1, b2, b3⟩ y => ?_) (fun Hc ⟨Bc, xs, gr, b1, b2, b3⟩ => ?_)
    · have hlt' : i < l.length := by rw [List.length_map] at hlt; exact hlt
      obtain ⟨B', d, gr2, hdi, dx⟩ := y Bc (hst _ _ _ _ hG gr.bb gr.bh) gr.bh
      rw [List.getElem?_map] at hdi
      obtain ⟨x', hx', rfl⟩ := Option.map_eq_some_iff.mp hdi
      obtain ⟨r1, hg, htt, hte⟩ := ht i x' hx'
      have okw := ((ok.grow (g1.trans (gr.trans gr2))).wipe vs)
      refine hg _ B' H' x okw dx _ fun s2 ok2 hw => ⟨by rw [hw, wipe_wipe], ?_⟩
      refine htt s2 B' H' ok2 _ fun B3 H3 g3 => ?_
      have g13 := gr.trans (gr2.trans g3)
      have hD3 : ∀ {B4 H4 : Hp}, Grow Bc Hc B4 H4 → B4 D = none ∧ H4 D = some (.lst xs) := fun {B4 H4} g4 => ⟨by rw [g4.new D (by rw [b2]; simp)]; exact b1, g4.hh _ _ b2⟩
      have up : ∀ {B4 H4 : Hp} {ys : List V}, Grow Bc Hc B4 H4 → Grow B1 H1 B4 (L2.upd H4 D (.lst ys)) := fun {B4 H4 ys} g4 => by
        have g14 := gr.trans g4
        refine ⟨g14.bb, fun z o e => ?_, fun z o e => ?_, g14.new⟩
        · rw [upd_ne (fun q => by rw [q, (hD3 g4).1] at e; cases e)]
          exact g14.bh z o e
        · rw [upd_ne (fun q => by rw [q, hD] at e; cases e)]
          exact g14.hh z o e
      cases hp : p x' with
      | true =>
        show te s2 H3 _
        refine hte hp s2 B3 H3 (ok2.grow g3) _ fun v B4 H4 g4 dv => ?_
        have gg := gr2.trans (g3.trans g4)
        refine ⟨xs, (hD3 gg).2, ?_, B4, xs ++ [v], up gg, (hD3 gg).1, upd_same, ?_⟩
        · rw [dpAll_len b3, List.length_map]
          refine line_lt (Nat.lt_of_le_of_lt (List.length_filter_le _ _) ?_)
          rw [List.length_take]
          omega
        · rw [outs i x' hx', if_pos hp]
          exact dpAll_app (dpAll_mono gg.bb _ _ b3) (.cons dv .nil)
      | false =>
        have gg := gr2.trans g3
        show ∃ Bc xs, _
        refine ⟨B3, xs, g13, (hD3 gg).1, (hD3 gg).2, ?_⟩
        rw [outs i x' hx', if_neg (by rw [hp]; decide), List.append_nil]
        exact dpAll_mono gg.bb _ _ b3
    · rw [List.length_map, List.take_length] at b3
      exact q D xs Bc Hc (g1.trans gr) (Same.free g1.hh hD) b1 b2 b3
theorem test_yes : RunT K F tYes r true := fun s B H ok Q q => q B H (Grow.refl ok.bh)
/-- .. without an if -/
theorem run_lc0 {al : Type} (l : List al) (enc : al → PyData) (out : al → PyData) (hi : RunI K F wi r (l.map enc)) (hn : l.length ≤ 100000)
    (ht : ∀ (i : Nat) (x : al), l[i]? = some x → ∃ r1, RunG K F vs g (enc x) (wipeR r vs) r1 ∧ RunE K F te r1 (out x)) :
    RunL K F (tLc wi g tYes te vs) r (l.map out) :=
  (run_lc (p := fun _ => true) l enc out hi hn fun i x e => let ⟨r1, a, b⟩ := ht i x e; ⟨r1, a, test_yes, fun _ => b⟩).is (by rw [List.filter_eq_self.mpr fun _ _ => rfl])

/-! ### what is walked -/
theorem dp_tup {B : Hp} {v : V} (h : Dp K B v (.tuple ds)) : ∃ a xs, v = .ref a ∧ SqT K B a xs ∧ DpAll K B xs ds := by
  cases h with
  | tup a b => exact ⟨_, _, rfl, a, b⟩
theorem dp_lst {B : Hp} {v : V} (h : Dp K B v (.list ds)) : ∃ a xs, v = .ref a ∧ SqL K B a xs ∧ DpAll K B xs ds := by
  cases h with
  | lst a b => exact ⟨_, _, rfl, a, b⟩
theorem walkd_tup {a : Addr} : WalkD K (Itt K a) ds (fun B H => Same B H ∧ ∃ xs, SqT K B a xs ∧ DpAll K B xs ds) := by
  refine ⟨fun i B H hi ⟨sb, xs, q, dv⟩ => ?_, fun B H ⟨sb, xs, q, dv⟩ => ⟨xs, sqT_mono sb q, by rw [dpAll_len dv]; exact Nat.le_refl _⟩, fun i B H x H' hi ⟨sb, xs, q, dv⟩ _ y => ?_⟩
  · have h' : i < xs.length := by rw [dpAll_len dv]; exact hi
    exact ⟨xs, xs[i], sqT_mono sb q, by simp [h']⟩
  · obtain ⟨e, y⟩ := y
    subst e
    obtain ⟨d, hd, dx⟩ := dpAll_get' dv (y xs (sqT_mono sb q))
    exact ⟨B, d, Grow.refl sb, hd, dx⟩
theorem stabs_dat {φ : Hp → Prop} (h : ∀ B B', φ B → Same B B' → φ B') : StabS (fun B H => Same B H ∧ φ B) := fun B H B' H' ⟨a, b⟩ e e' => ⟨e', h _ _ b e⟩
theorem runi_tup (h : RunE K F tl r (.tuple ds)) : RunI K F (iAny K tl) r ds := fun s B H ok R q => h s B H ok _ fun v B1 H1 g1 dv => by
  obtain ⟨a, xs, rfl, hs, ha⟩ := dp_tup dv
  exact .inl ⟨a, rfl, ⟨xs, sqT_mono g1.bh hs⟩, q _ _ B1 H1 g1 ⟨g1.bh, xs, hs, ha⟩ (stabs_dat (φ := fun B => ∃ xs, SqT K B a xs ∧ DpAll K B xs ds) fun B B' ⟨xs, c, d⟩ e => ⟨xs, sqT_mono e c, dpAll_mono e _ _ d⟩) walkd_tup⟩
theorem walkd_lst {a : Addr} : WalkD K (Itl K a) ds (fun B H => Same B H ∧ ∃ xs, SqL K B a xs ∧ DpAll K B xs ds) := by
  refine ⟨fun i B H hi ⟨sb, xs, q, dv⟩ => ?_, fun B H ⟨sb, xs, q, dv⟩ => ⟨xs, sb.seq q, by rw [dpAll_len dv]; exact Nat.le_refl _⟩, fun i B H x H' hi ⟨sb, xs, q, dv⟩ _ y => ?_⟩
  · have h' : i < xs.length := by rw [dpAll_len dv]; exact hi
    exact ⟨xs, xs[i], sb.seq q, by simp [h']⟩
  · obtain ⟨e, y⟩ := y
    subst e
    obtain ⟨d, hd, dx⟩ := dpAll_get' dv (y xs (sb.seq q))
    exact ⟨B, d, Grow.refl sb, hd, dx⟩
theorem runi_lst (h : RunE K F tl r (.list ds)) : RunI K F (iAny K tl) r ds := fun s B H ok R q => h s B H ok _ fun v B1 H1 g1 dv => by
  obtain ⟨a, xs, rfl, hs, ha⟩ := dp_lst dv
  exact .inr (.inl ⟨a, rfl, ⟨xs, g1.bh.seq hs⟩, q _ _ B1 H1 g1 ⟨g1.bh, xs, hs, ha⟩ (stabs_dat (φ := fun B => ∃ xs, SqL K B a xs ∧ DpAll K B xs ds) fun B B' ⟨xs, c, d⟩ e => ⟨xs, e.seq c, dpAll_mono e _ _ d⟩) walkd_lst⟩)
/-- the signs of a text -/
def signs (z : Str) : List PyData := z.cps.toList.map fun c => .str ⟨#[c]⟩
theorem runi_str {z : Str} (h : RunE K F tl r (.str z)) : RunI K F (iAny K tl) r (signs z) := fun s B H ok R q => h s B H ok _ fun v B1 H1 g1 dv => by
  cases dv
  refine .inr (.inr ⟨z, rfl, q _ (fun B H => Same B H ∧ True) B1 H1 g1 ⟨g1.bh, trivial⟩ (stabs_dat (φ := fun _ => True) fun _ _ _ _ => trivial) ⟨fun i B H hi _ => ?_, fun B H _ => ?_, fun i B H x H' hi ⟨sb, _⟩ _ y => ?_⟩⟩)
  · show i < z.cps.size
    unfold signs at hi
    rw [List.length_map, Array.length_toList] at hi
    exact hi
  · show z.cps.size ≤ (signs z).length
    unfold signs
    rw [List.length_map, Array.length_toList]
    exact Nat.le_refl _
  · obtain ⟨e, c, hc, rfl⟩ := y
    subst e
    refine ⟨B, .str ⟨#[c]⟩, Grow.refl sb, ?_, .str _⟩
    unfold signs
    rw [List.getElem?_map]
    simp [hc]
theorem runi_rng {n : Int} {ta : TA} (h : RunA K F ta r [.int n]) (h0 : -100000 ≤ n) (h1 : n ≤ 100000) : RunI K F (iRng1 ta) r ((List.range n.toNat).map fun (i : Nat) => .int (i : Int)) := fun s B H ok R q => h s B H ok _ fun vs B1 H1 g1 dvs => by
  cases dvs with
  | cons a b =>
    cases b
    cases a
    refine ⟨n, rfl, by omega, by omega, q _ (fun B H => Same B H ∧ True) B1 H1 g1 ⟨g1.bh, trivial⟩ (stabs_dat (φ := fun _ => True) fun _ _ _ _ => trivial) ⟨fun i B H hi _ => ?_, fun B H _ => ?_, fun i B H x H' hi ⟨sb, _⟩ _ y => ?_⟩⟩
    · rw [List.length_map, List.length_range] at hi
      exact hi
    · rw [List.length_map, List.length_range]
      exact Nat.le_refl _
    · obtain ⟨e, ex⟩ := y
      subst e ex
      rw [List.length_map, List.length_range] at hi
      refine ⟨B, .int (i : Int), Grow.refl sb, ?_, ?_⟩
      · rw [List.getElem?_map, List.getElem?_range hi]
        rfl
      · rw [Int.zero_add]
        exact .int _
theorem runi_rngM {n : Nat} {ta : TA} (h : RunA K F ta r [.int (n : Int)]) (h1 : n ≤ 100000) : RunI K F (iRng1 ta) r ((List.range n).map fun (i : Nat) => .int (i : Int)) := by
  have := runi_rng h (by omega) (by omega)
  rw [Int.toNat_natCast] at this
  exact this
/-- enumerate(t) -/
def places (n : Nat) : List PyData → List PyData
  | [] => []
  | d :: ds => .tuple [.int (n : Int), d] :: places (n + 1) ds
theorem places_len : ∀ (ds : List PyData) (n : Nat), (places n ds).length = ds.length
  | [], _ => rfl
  | d :: ds, n => by unfold places; rw [List.length_cons, List.length_cons, places_len ds]
theorem places_get : ∀ (ds : List PyData) (n i : Nat) (d : PyData), ds[i]? = some d → (places n ds)[i]? = some (.tuple [.int ((n + i : Nat) : Int), d])
  | [], _, _, _, h => by simp at h
  | d :: ds, n, 0, x, h => by
    have e : d = x := by simpa using h
    subst e
    rfl
  | d :: ds, n, i + 1, x, h => by
    unfold places
    rw [List.getElem?_cons_succ, places_get ds (n + 1) i x (by simpa using h)]
    have e : n + 1 + i = n + (i + 1) := by omega
    rw [e]
theorem runi_enum {ta : TA} (h : RunA K F ta r [.tuple ds]) : RunI K F (iEnumT K ta) r (places 0 ds) := fun s B H ok R q => h s B H ok _ fun vs B1 H1 g1 dvs => by
  cases dvs with
  | cons dv b =>
    cases b
    obtain ⟨a, xs, rfl, hs, ha⟩ := dp_tup dv
    refine ⟨a, xs, rfl, sqT_mono g1.bh hs, q _ (fun B H => Same B H ∧ ∃ xs, SqT K B a xs ∧ DpAll K B xs ds) B1 H1 g1 ⟨g1.bh, xs, hs, ha⟩ (stabs_dat (φ := fun B => ∃ xs, SqT K B a xs ∧ DpAll K B xs ds) fun B B' ⟨xs, c, d⟩ e => ⟨xs, sqT_mono e c, dpAll_mono e _ _ d⟩) ⟨fun i B H hi ⟨sb, xs, q, dv⟩ => ?_, fun B H ⟨sb, xs, q, dv⟩ => ?_, fun i B H x H' hi ⟨sb, xs, q, dv⟩ _ y => ?_⟩⟩
    · rw [places_len] at hi
      have h' : i < xs.length := by rw [dpAll_len dv]; exact hi
      exact ⟨xs, xs[i], sqT_mono sb q, by simp [h']⟩
    · exact ⟨xs, sqT_mono sb q, by rw [dpAll_len dv, places_len]⟩
    · obtain ⟨T, x, rfl, hT, rfl, y⟩ := y
      obtain ⟨d, hd, dx⟩ := dpAll_get' dv (y xs (sqT_mono sb q))
      have bT := sb.free hT
      refine ⟨L2.upd B T (.tup [.int (i : Nat), x]), .tuple [.int (i : Int), d], Grow.lay sb hT, ?_, .tup (SqT.of upd_same) (.cons (.int _) (.cons (dp_mono (Same.new bT) _ _ dx) .nil))⟩
      have := places_get ds 0 i d hd
      rw [Nat.zero_add] at this
      exact this
/-- zip(t, u) -/
def zipD : List PyData → List PyData → List PyData
  | a :: as, b :: bs => .tuple [a, b] :: zipD as bs
  | _, _ => []
theorem zipD_len : ∀ (as bs : List PyData), (zipD as bs).length = min as.length bs.length
  | [], bs => by simp [zipD]
  | a :: as, [] => by simp [zipD]
  | a :: as, b :: bs => by
    unfold zipD
    rw [List.length_cons, zipD_len as bs, List.length_cons, List.length_cons]
    omega
theorem zipD_get : ∀ (as bs : List PyData) (i : Nat) (x y : PyData), as[i]? = some x → bs[i]? = some y → (zipD as bs)[i]? = some (.tuple [x, y])
  | [], _, _, _, _, h, _ => by simp at h
  | _ :: _, [], _, _, _, _, h => by simp at h
  | a :: as, b :: bs, 0, x, y, h1, h2 => by
    have e1 : a = x := by simpa using h1
    have e2 : b = y := by simpa using h2
    subst e1 e2
    rfl
  | a :: as, b :: bs, i + 1, x, y, h1, h2 => by
    unfold zipD
    rw [List.getElem?_cons_succ]
    exact zipD_get as bs i x y (by simpa using h1) (by simpa using h2)
theorem sqTL_mono {k : Bool} {H H' : Hp} {a : Addr} {xs : List V} (e : Same H H') (h : SqTL K k H a xs) : SqTL K k H' a xs := by
  cases k with
  | true => exact sqT_mono e h
  | false => exact e.seq h
theorem runi_zipX {k : Bool} {a b : Addr} {B1 H1 : Hp} {xs ys : List V} {as bs : List PyData} (sb : Same B1 H1) (h1 : SqT K B1 a xs) (d1 : DpAll K B1 xs as) (h2 : SqTL K k B1 b ys) (d2 : DpAll K B1 ys bs) {R : It → Hp → Prop}
    (q : ∀ J G, G B1 H1 → StabS G → WalkD K J (zipD as bs) G → R J H1) : R (ItzX K k a b) H1 := by
  refine q _ (fun B H => Same B H ∧ ∃ xs ys, SqT K B a xs ∧ DpAll K B xs as ∧ SqTL K k B b ys ∧ DpAll K B ys bs) ⟨sb, xs, ys, h1, d1, h2, d2⟩ (stabs_dat (φ := fun B => ∃ xs ys, SqT K B a xs ∧ DpAll K B xs as ∧ SqTL K k B b ys ∧ DpAll K B ys bs) fun B B' ⟨xs, ys, c1, c2, c3, c4⟩ e => ⟨xs, ys, sqT_mono e c1, dpAll_mono e _ _ c2, sqTL_mono e c3, dpAll_mono e _ _ c4⟩) ⟨fun i B H hi ⟨sb, xs, ys, c1, c2, c3, c4⟩ => ?_, fun B H ⟨sb, xs, ys, c1, c2, c3, c4⟩ => ?_, fun i B H x H' hi ⟨sb, xs, ys, c1, c2, c3, c4⟩ _ y => ?_⟩
  · rw [zipD_len, ← dpAll_len c2, ← dpAll_len c4] at hi
    have g1 : i < xs.length := by omega
    have g2 : i < ys.length := by omega
    exact ⟨xs, ys, xs[i], ys[i], sqT_mono sb c1, sqTL_mono sb c3, by simp [g1], by simp [g2]⟩
  · exact ⟨xs, ys, sqT_mono sb c1, sqTL_mono sb c3, by rw [zipD_len, dpAll_len c2, dpAll_len c4]⟩
  · obtain ⟨T, x, y, rfl, hT, rfl, y1, y2⟩ := y
    obtain ⟨d, hd, dx⟩ := dpAll_get' c2 (y1 xs (sqT_mono sb c1))
    obtain ⟨e, he, dy⟩ := dpAll_get' c4 (y2 ys (sqTL_mono sb c3))
    have bT := sb.free hT
    exact ⟨L2.upd B T (.tup [x, y]), .tuple [d, e], Grow.lay sb hT, zipD_get _ _ _ _ _ hd he, .tup (SqT.of upd_same) (.cons (dp_mono (Same.new bT) _ _ dx) (.cons (dp_mono (Same.new bT) _ _ dy) .nil))⟩
theorem runi_zipTT {ta : TA} {as bs : List PyData} (h : RunA K F ta r [.tuple as, .tuple bs]) : RunI K F (iZipX K ta) r (zipD as bs) := fun s B H ok R q => h s B H ok _ fun vs B1 H1 g1 dvs => by
  cases dvs with
  | cons dv b =>
    cases b with
    | cons dw n =>
      cases n
      obtain ⟨a, xs, rfl, hs, ha⟩ := dp_tup dv
      obtain ⟨b, ys, rfl, hs2, ha2⟩ := dp_tup dw
      exact ⟨a, b, xs, ys, true, rfl, sqT_mono g1.bh hs, sqT_mono g1.bh hs2, runi_zipX (k := true) g1.bh hs ha hs2 ha2 fun J G p1 p2 p3 => q J G B1 H1 g1 p1 p2 p3⟩
theorem runi_zipTL {ta : TA} {as bs : List PyData} (h : RunA K F ta r [.tuple as, .list bs]) : RunI K F (iZipX K ta) r (zipD as bs) := fun s B H ok R q => h s B H ok _ fun vs B1 H1 g1 dvs => by
  cases dvs with
  | cons dv b =>
    cases b with
    | cons dw n =>
      cases n
      obtain ⟨a, xs, rfl, hs, ha⟩ := dp_tup dv
      obtain ⟨b, ys, rfl, hs2, ha2⟩ := dp_lst dw
      exact ⟨a, b, xs, ys, false, rfl, sqT_mono g1.bh hs, g1.bh.seq hs2, runi_zipX (k := false) g1.bh hs ha hs2 ha2 fun J G p1 p2 p3 => q J G B1 H1 g1 p1 p2 p3⟩
end
end Ts
set_option Elab.async false
set_option linter.all false
set_option maxRecDepth 100000
set_option maxHeartbeats 2000000
/-! Operators, subscripts, built-in calls and calls of defs, over data. -/
namespace Ts
open PySem PySem.Spec PyProof.Rows L2

/-! ### readings with names of their own -/
def rEqA (K : PySem.W.Frag) : R2 := fun x y H Q => rEq x y H Q ∨ rEqD K x y H Q
def rNeA (K : PySem.W.Frag) : R2 := fun x y H Q => rNe x y H Q ∨ rNeD K x y H Q
def rIsNn : R2 := fun x y H Q => y = .non ∧ Q (.bl (decide (x = .non))) H
def rNotNn : R2 := fun x y H Q => y = .non ∧ Q (.bl (!decide (x = .non))) H
def rSubI : R2 := rI0 fun i j => .int (i - j)
def rMulI : R2 := rI CMul fun i j => .int (i * j)
def rDivI : R2 := rI CDiv fun i j => .int (i / j)
def rModI : R2 := rI (fun _ j => 0 < j) fun i j => .int (i % j)
def rPowI : R2 := rI CPow fun i j => .int (i ^ j.toNat)
def rLeI : R2 := rI0 fun i j => .bl (decide (i ≤ j))
def rGtI : R2 := rI0 fun i j => .bl (decide (j < i))
def rGeI : R2 := rI0 fun i j => .bl (decide (j ≤ i))
def rLenA (K : PySem.W.Frag) : List V → Hp → VK → Prop := fun xs H Q => ∃ x n, xs = [x] ∧ LenV K x H n ∧ Q (.int n) H
def rMaxI : List V → Hp → VK → Prop := fun xs H Q => ∃ i j, xs = [.int i, .int j] ∧ Q (.int (if j > i then j else i)) H
def rListA (K : PySem.W.Frag) : List V → Hp → VK → Prop := fun xs H Q => ∃ p ys, xs = [.ref p] ∧ (SqL K H p ys ∨ SqT K H p ys) ∧ ∀ l, H l = none → Q (.ref l) (upd H l (.lst ys))
def rTupA (K : PySem.W.Frag) : List V → Hp → VK → Prop := fun xs H Q => ∃ p ys, xs = [.ref p] ∧ ((SqL K H p ys ∧ ∀ l, H l = none → Q (.ref l) (upd H l (.tup ys))) ∨ (SqT K H p ys ∧ Q (.ref p) H))
def rSlAny (K : PySem.W.Frag) : V → Option Int → Option Int → Hp → VK → Prop := fun x lo hi H Q => rSlA K x lo hi H Q ∨ (rSlL K x lo hi H Q ∨ rSlS x lo hi H Q)
section
variable {X : Cx}
theorem op_eqA (hu : X.A.units + 64 < cLine) : OpR X (compareOp .Eq) (rEqA X.K) := op_eq.or (op_eqD hu)
theorem op_neA (hu : X.A.units + 64 < cLine) : OpR X (compareOp .NotEq) (rNeA X.K) := op_ne.or (op_neD hu)
theorem op_isNn : OpR X (compareOp .Is) rIsNn := op_isN
theorem op_notNn : OpR X (compareOp .IsNot) rNotNn := op_notN
theorem op_subI : OpR X (binaryOp .Sub) rSubI := op_sub
theorem op_mulI : OpR X (binaryOp .Mult) rMulI := op_mul
theorem op_divI : OpR X (binaryOp .FloorDiv) rDivI := op_fdiv
theorem op_modI : OpR X (binaryOp .Mod) rModI := op_mod
theorem op_powI : OpR X (binaryOp .Pow) rPowI := op_pow
theorem op_leI : OpR X (compareOp .LtE) rLeI := op_le
theorem op_gtI : OpR X (compareOp .Gt) rGtI := op_gt
theorem op_geI : OpR X (compareOp .GtE) rGeI := op_ge
theorem call_lenA : CallR X (.builtin "len") (rLenA X.K) := call_len
theorem call_maxI (hc : X.calm = true) : CallR X (.builtin "max") rMaxI := call_max2 hc
theorem call_listA : CallR X (.type "list") (rListA X.K) := call_list_of
theorem call_tupA : CallR X (.type "tuple") (rTupA X.K) := call_tuple_of
theorem sl_any : SlR X (rSlAny X.K) := sl_tupA.or (sl_list.or sl_str)
end

section
variable {K : PySem.W.Frag} {F : Fx} {r r1 r2 : PEnv} {te ta tb tc tl : TE} {tt tu : TT} {d a b c : PyData} {P : Hp → V → Prop} {ds es : List PyData}

/-! ### values and data -/
def toV : PyData → Option V
  | .none => some .non
  | .bool b => some (.bl b)
  | .int i => some (.int i)
  | .str x => some (.str x)
  | _ => none
theorem dp_toV {B : Hp} {v w : V} (h : Dp K B v d) (e : toV d = some w) : v = w := by
  cases h <;> first
    | (cases e; rfl)
    | (cases e)

/-! ### == and != -/
theorem opb_eqI {i j : Int} : OpB K (rEqA K) (.int i) (.int j) (decide (i = j)) := fun B H x y s dx dy Q q => by
  cases dx
  cases dy
  exact .inl ⟨rfl, by rw [show decide (V.int i = V.int j) = decide (i = j) by simp]; exact q⟩
theorem opb_neI {i j : Int} : OpB K (rNeA K) (.int i) (.int j) (!decide (i = j)) := fun B H x y s dx dy Q q => by
  cases dx
  cases dy
  exact .inl ⟨rfl, by rw [show decide (V.int i = V.int j) = decide (i = j) by simp]; exact q⟩
theorem opb_eqS {i j : Str} : OpB K (rEqA K) (.str i) (.str j) (decide (i = j)) := fun B H x y s dx dy Q q => by
  cases dx
  cases dy
  exact .inl ⟨rfl, by rw [show decide (V.str i = V.str j) = decide (i = j) by simp]; exact q⟩
theorem opb_neS {i j : Str} : OpB K (rNeA K) (.str i) (.str j) (!decide (i = j)) := fun B H x y s dx dy Q q => by
  cases dx
  cases dy
  exact .inl ⟨rfl, by rw [show decide (V.str i = V.str j) = decide (i = j) by simp]; exact q⟩
theorem opb_eqB {i j : Bool} : OpB K (rEqA K) (.bool i) (.bool j) (decide (i = j)) := fun B H x y s dx dy Q q => by
  cases dx
  cases dy
  exact .inl ⟨rfl, by rw [show decide (V.bl i = V.bl j) = decide (i = j) by simp]; exact q⟩
theorem opb_neB {i j : Bool} : OpB K (rNeA K) (.bool i) (.bool j) (!decide (i = j)) := fun B H x y s dx dy Q q => by
  cases dx
  cases dy
  exact .inl ⟨rfl, by rw [show decide (V.bl i = V.bl j) = decide (i = j) by simp]; exact q⟩
/-- None, an int, a text, by their values -/
theorem opb_eqV {v w : V} (h1 : toV a = some v) (h2 : toV b = some w) (hs : scal v w = true) : OpB K (rEqA K) a b (decide (v = w)) := fun B H x y s dx dy Q q => by
  rw [dp_toV dx h1, dp_toV dy h2]
  exact .inl ⟨hs, q⟩
theorem opb_neV {v w : V} (h1 : toV a = some v) (h2 : toV b = some w) (hs : scal v w = true) : OpB K (rNeA K) a b (!decide (v = w)) := fun B H x y s dx dy Q q => by
  rw [dp_toV dx h1, dp_toV dy h2]
  exact .inl ⟨hs, q⟩
theorem opb_eqD (h1 : SeqAt.shaped a = true) (h2 : SeqAt.shaped b = true) : OpB K (rEqA K) a b (PyData.eqv a b) := fun B H x y s dx dy Q q => .inr ⟨a, b, dp_mono s _ _ dx, dp_mono s _ _ dy, h1, h2, q⟩
theorem opb_neD (h1 : SeqAt.shaped a = true) (h2 : SeqAt.shaped b = true) : OpB K (rNeA K) a b (!PyData.eqv a b) := fun B H x y s dx dy Q q => .inr ⟨a, b, dp_mono s _ _ dx, dp_mono s _ _ dy, h1, h2, q⟩
theorem OpB.is {rr : R2} {k l : Bool} (h : OpB K rr a b k) (e : k = l) : OpB K rr a b l := e ▸ h
/-! ### is None -/
theorem opb_isN : OpB K rIsNn .none .none true := fun B H x y s dx dy Q q => by
  cases dx
  cases dy
  exact ⟨rfl, q⟩
theorem opb_isNV {k : Bool} (h : a ≠ .none) : OpB K rIsNn a .none false := fun B H x y s dx dy Q q => by
  cases dy
  refine ⟨rfl, ?_⟩
  cases dx with
  | non => exact absurd rfl h
  | _ => exact q
theorem opb_notN : OpB K rNotNn .none .none false := fun B H x y s dx dy Q q => by
  cases dx
  cases dy
  exact ⟨rfl, q⟩
theorem opb_notNV (h : a ≠ .none) : OpB K rNotNn a .none true := fun B H x y s dx dy Q q => by
  cases dy
  refine ⟨rfl, ?_⟩
  cases dx with
  | non => exact absurd rfl h
  | _ => exact q
/-! ### order -/
theorem opb_ltI {i j : Int} : OpB K (rLtD K) (.int i) (.int j) (decide (i < j)) := fun B H x y s dx dy Q q => ⟨.int i, .int j, dp_mono s _ _ dx, dp_mono s _ _ dy, rfl, (fun z => nomatch z), Nat.zero_le _, by rw [PySem.W.dataLt_int]; exact q⟩
theorem opb_ltS {i j : Str} : OpB K (rLtD K) (.str i) (.str j) (decide (i.cps.toList < j.cps.toList)) := fun B H x y s dx dy Q q => ⟨.str i, .str j, dp_mono s _ _ dx, dp_mono s _ _ dy, rfl, (fun z => nomatch z), Nat.zero_le _, by rw [PySem.W.dataLt_str]; exact q⟩
theorem opb_ltD (h1 : PySem.W.alike a b = true) (h2 : a ≠ .none) (h3 : a.depth ≤ 60) : OpB K (rLtD K) a b (PySem.W.dataLt a b) := fun B H x y s dx dy Q q => ⟨a, b, dp_mono s _ _ dx, dp_mono s _ _ dy, h1, h2, h3, q⟩
theorem opb_leI {i j : Int} : OpB K rLeI (.int i) (.int j) (decide (i ≤ j)) := fun B H x y s dx dy Q q => by
  cases dx
  cases dy
  exact ⟨_, _, rfl, rfl, q⟩
theorem opb_gtI {i j : Int} : OpB K rGtI (.int i) (.int j) (decide (j < i)) := fun B H x y s dx dy Q q => by
  cases dx
  cases dy
  exact ⟨_, _, rfl, rfl, q⟩
theorem opb_geI {i j : Int} : OpB K rGeI (.int i) (.int j) (decide (j ≤ i)) := fun B H x y s dx dy Q q => by
  cases dx
  cases dy
  exact ⟨_, _, rfl, rfl, q⟩
/-- l <= x <= h -/
theorem run_chain {i j k : Int} (ha : RunE K F ta r (.int i)) (hb : RunE K F tb r (.int j)) (hc : RunE K F tc r (.int k)) : RunE K F (tChain rLeI rLeI ta tb tc) r (.bool (decide (i ≤ j) && decide (j ≤ k))) := fun s B H ok Q q =>
  ha s B H ok _ fun x B1 H1 g1 dx => hb s B1 H1 (ok.grow g1) _ fun y B2 H2 g2 dy => by
    cases dx
    cases dy
    refine ⟨i, j, rfl, rfl, decide (i ≤ j), rfl, ?_⟩
    cases hk : decide (i ≤ j) with
    | true =>
      refine iteT (hc s B2 H2 (ok.grow (g1.trans g2)) _ fun z B3 H3 g3 dz => ?_)
      cases dz
      exact ⟨j, k, rfl, rfl, q _ B3 H3 (g1.trans (g2.trans g3)) (by rw [hk, Bool.true_and]; exact .bl _)⟩
    | false => exact iteF (q _ B2 H2 (g1.trans g2) (by rw [hk, Bool.false_and]; exact .bl _))
/-! ### arithmetic -/
theorem opd_plusI {i j : Int} : OpD K (rPlus K) (.int i) (.int j) (.int (i + j)) := fun B H x y s dx dy Q q => by
  cases dx
  cases dy
  exact .inl ⟨i, j, rfl, rfl, q _ B H (Grow.refl s) (.int _)⟩
theorem opd_sub {i j : Int} : OpD K rSubI (.int i) (.int j) (.int (i - j)) := fun B H x y s dx dy Q q => by
  cases dx
  cases dy
  exact ⟨i, j, rfl, rfl, q _ B H (Grow.refl s) (.int _)⟩
theorem opd_mul {i j : Int} (h : CMul i j) : OpD K rMulI (.int i) (.int j) (.int (i * j)) := fun B H x y s dx dy Q q => by
  cases dx
  cases dy
  exact ⟨i, j, rfl, rfl, h, q _ B H (Grow.refl s) (.int _)⟩
theorem opd_div {i j : Int} (h : CDiv i j) : OpD K rDivI (.int i) (.int j) (.int (i / j)) := fun B H x y s dx dy Q q => by
  cases dx
  cases dy
  exact ⟨i, j, rfl, rfl, h, q _ B H (Grow.refl s) (.int _)⟩
theorem opd_mod {i j : Int} (h : 0 < j) : OpD K rModI (.int i) (.int j) (.int (i % j)) := fun B H x y s dx dy Q q => by
  cases dx
  cases dy
  exact ⟨i, j, rfl, rfl, h, q _ B H (Grow.refl s) (.int _)⟩
theorem opd_pow {i j : Int} (h : CPow i j) : OpD K rPowI (.int i) (.int j) (.int (i ^ j.toNat)) := fun B H x y s dx dy Q q => by
  cases dx
  cases dy
  exact ⟨i, j, rfl, rfl, h, q _ B H (Grow.refl s) (.int _)⟩
theorem run_neg {i : Int} (ha : RunE K F ta r (.int i)) : RunE K F (tUn (rU fun i => .int (-i)) ta) r (.int (-i)) := fun s B H ok Q q => ha s B H ok _ fun v B1 H1 g1 dv => by
  cases dv
  exact ⟨i, rfl, q _ B1 H1 g1 (.int _)⟩
/-- tuples -/
theorem opd_plusT (hl : ds.length + es.length ≤ 1000000) : OpD K (rPlus K) (.tuple ds) (.tuple es) (.tuple (ds ++ es)) := fun B H x y s dx dy Q q => by
  obtain ⟨p, xs, rfl, h1, a1⟩ := dp_tup dx
  obtain ⟨p2, ys, rfl, h2, a2⟩ := dp_tup dy
  refine .inr (.inl ⟨p, p2, xs, ys, rfl, rfl, sqT_mono s h1, sqT_mono s h2, by rw [dpAll_len a1, dpAll_len a2]; exact line_of hl, fun e => ?_, fun _ e => ?_, fun _ _ l hl => ?_⟩)
  · subst e
    cases a1
    exact q _ B H (Grow.refl s) (.tup h2 a2)
  · subst e
    cases a2
    refine q _ B H (Grow.refl s) (.tup h1 ?_)
    rw [List.append_nil]
    exact a1
  · exact q _ _ _ (Grow.lay s hl) (.tup (SqT.of upd_same) (dpAll_mono (Same.new (s.free hl)) _ _ (dpAll_app a1 a2)))
/-- lists -/
theorem run_cat (ha : RunR K F ta r ds) (hb : RunR K F tb r es) (hl : ds.length + es.length ≤ 1000000) : RunL K F (tOp (rPlus K) ta tb) r (ds ++ es) := fun s B H ok Q q =>
  ha s B H ok _ fun p xs B1 H1 g1 hp a1 => hb s B1 H1 (ok.grow g1) _ fun p2 ys B2 H2 g2 hp2 a2 => by
    have g := g1.trans g2
    refine .inr (.inr ⟨p, p2, xs, ys, rfl, rfl, g2.hh _ _ hp, hp2, by rw [dpAll_len a1, dpAll_len a2]; exact line_of hl, fun l hl => ?_⟩)
    exact q l (xs ++ ys) B2 _ (g.trans (Grow.out g.bh hl)) (Same.free g.hh hl) (g.bh.free hl) upd_same (dpAll_app (dpAll_mono g2.bb _ _ a1) a2)
/-! ### in -/
theorem opb_inSg {n : Bool} {c : Nat} {z : Str} : OpB K (rInA K n) (.str ⟨#[c]⟩) (.str z) (if n then !decide (c ∈ z.cps.toList) else decide (c ∈ z.cps.toList)) := fun B H x y s dx dy Q q => by
  cases dx
  cases dy
  exact .inl ⟨c, z, rfl, rfl, q⟩
theorem opb_inD {n : Bool} (h1 : SeqAt.shaped a = true) (h2 : SeqAt.shaped (.list ds) = true) : OpB K (rInA K n) a (.list ds) (if n then !(ds.any fun z => PyData.eqv z a) else ds.any fun z => PyData.eqv z a) := fun B H x y s dx dy Q q =>
  .inr (.inl ⟨a, ds, dp_mono s _ _ dx, dp_mono s _ _ dy, h1, h2, q⟩)
theorem flat_strs {xs : List Str} : (xs.map V.str).all flatV = true := by
  rw [List.all_eq_true]
  intro v hv
  obtain ⟨x, _, rfl⟩ := List.mem_map.mp hv
  rfl
theorem inV_strs {x : Str} : ∀ {xs : List Str}, inV (.str x) (xs.map V.str) = decide (x ∈ xs)
  | [] => rfl
  | y :: ys => by
    unfold inV
    rw [List.map_cons, List.any_cons]
    have ih := inV_strs (x := x) (xs := ys)
    unfold inV at ih
    rw [ih]
    show ((y == x) || decide (x ∈ ys)) = decide (x ∈ y :: ys)
    by_cases h : x = y
    · subst h
      simp
    · have : (y == x) = false := by simp [Ne.symm h]
      rw [this]
      simp [h]
theorem dpAll_strs {B : Hp} : ∀ {xs : List Str} {vs : List V}, DpAll K B vs (xs.map PyData.str) → vs = xs.map V.str
  | [], _, h => by cases h; rfl
  | x :: xs, _, h => by
    cases h with
    | cons h1 h2 =>
      cases h1
      rw [List.map_cons, dpAll_strs h2]
theorem opb_inSL {n : Bool} {x : Str} {xs : List Str} : OpB K (rInA K n) (.str x) (.list (xs.map .str)) (if n then !decide (x ∈ xs) else decide (x ∈ xs)) := fun B H v y s dx dy Q q => by
  cases dx
  obtain ⟨p, ys, rfl, h1, a1⟩ := dp_lst dy
  rw [dpAll_strs a1] at h1
  refine .inr (.inr (.inl ⟨p, _, rfl, .inl (s.seq h1), rfl, flat_strs, ?_⟩))
  rw [inV_strs]
  exact q
theorem opb_inST {n : Bool} {x : Str} {xs : List Str} : OpB K (rInA K n) (.str x) (.tuple (xs.map .str)) (if n then !decide (x ∈ xs) else decide (x ∈ xs)) := fun B H v y s dx dy Q q => by
  cases dx
  obtain ⟨p, ys, rfl, h1, a1⟩ := dp_tup dy
  rw [dpAll_strs a1] at h1
  refine .inr (.inr (.inl ⟨p, _, rfl, .inr (sqT_mono s h1), rfl, flat_strs, ?_⟩))
  rw [inV_strs]
  exact q
/-- x in d, a dict -/
theorem run_inDc {n : Bool} {x : Str} {kvs : List (L2.Key × V)} (ha : RunE K F ta r (.str x)) (hb : RunV K F tb r (fun B v => IsDct B v kvs)) :
    RunE K F (tOp (rInA K n) ta tb) r (.bool (if n then !(valV kvs (.inr x)).isSome else (valV kvs (.inr x)).isSome)) := fun s B H ok Q q =>
  ha s B H ok _ fun v B1 H1 g1 dv => hb s B1 H1 (ok.grow g1) _ fun y B2 H2 g2 ⟨p, e, hp⟩ => by
    cases dv
    subst e
    exact .inr (.inr (.inr ⟨p, _, rfl, DGet.k (k := .inr x) (g2.bh _ _ hp), q _ B2 H2 (g1.trans g2) (.bl _)⟩))

/-! ### subscripts -/
theorem opd_ixT {i : Int} {d : PyData} (h : atI ds i = some d) : OpD K (rIx K) (.tuple ds) (.int i) d := fun B H x y s dx dy Q q => by
  cases dy
  obtain ⟨p, xs, rfl, h1, a1⟩ := dp_tup dx
  obtain ⟨j, e1, e2, e3, _⟩ := atI_get h
  obtain ⟨v, hv, dv⟩ := dpAll_get a1 e2
  refine .inr (.inl ⟨p, xs, i, v, rfl, rfl, sqT_mono s h1, ?_, q v B H (Grow.refl s) dv⟩)
  unfold atI at h ⊢
  rw [dpAll_len a1]
  cases hx : ixN ds.length i with
  | none => rw [hx] at h; cases h
  | some k =>
    rw [hx] at h
    have e4 := (ixN_seq hx).1
    rw [e1] at e4
    cases e4
    exact hv
theorem opd_ixL {i : Int} {d : PyData} (h : atI ds i = some d) : OpD K (rIx K) (.list ds) (.int i) d := fun B H x y s dx dy Q q => by
  cases dy
  obtain ⟨p, xs, rfl, h1, a1⟩ := dp_lst dx
  obtain ⟨j, e1, e2, e3, _⟩ := atI_get h
  obtain ⟨v, hv, dv⟩ := dpAll_get a1 e2
  refine .inl ⟨p, xs, i, v, rfl, rfl, s.seq h1, ?_, q v B H (Grow.refl s) dv⟩
  unfold atI at h ⊢
  rw [dpAll_len a1]
  cases hx : ixN ds.length i with
  | none => rw [hx] at h; cases h
  | some k =>
    rw [hx] at h
    have e4 := (ixN_seq hx).1
    rw [e1] at e4
    cases e4
    exact hv
theorem opd_ixS {i : Int} {c : Nat} {z : Str} (hl : z.length ≤ 1000000) (h : atI z.cps.toList i = some c) : OpD K (rIx K) (.str z) (.int i) (.str ⟨#[c]⟩) := fun B H x y s dx dy Q q => by
  cases dx
  cases dy
  exact .inr (.inr ⟨z, i, c, rfl, rfl, line_of hl, h, q _ B H (Grow.refl s) (.str _)⟩)
/-- slices -/
def cutD (ds : List PyData) (lo hi : Option Int) : List PyData := (ds.drop (HT.sIx ds.length 0 lo)).take (HT.sIx ds.length ds.length hi - HT.sIx ds.length 0 lo)
theorem cut_dp {B : Hp} {xs : List V} {lo hi : Option Int} (a : DpAll K B xs ds) : DpAll K B (cutV xs lo hi) (cutD ds lo hi) := by
  unfold cutV cutD
  rw [dpAll_len a]
  exact dpAll_take _ (dpAll_drop _ a)
theorem cut_all {lo hi : Option Int} (h : HT.sIx ds.length 0 lo = 0 ∧ HT.sIx ds.length ds.length hi = ds.length) : cutD ds lo hi = ds := by
  unfold cutD
  rw [h.1, h.2]
  show List.take (ds.length - 0) (List.drop 0 ds) = ds
  rw [List.drop_zero, Nat.sub_zero, List.take_length]
def RunO (K : PySem.W.Frag) (F : Fx) (to : TO) (r : PEnv) (o : Option Int) : Prop := ∀ s B H, EnvOk K F B H s r → ∀ Q : Option Int → Hp → Prop, (∀ B' H', Grow B H B' H' → Q o H') → to s H Q
theorem runo_none : RunO K F tNoPart r none := fun s B H ok Q q => q B H (Grow.refl ok.bh)
theorem runo_some {i : Int} (h : RunE K F te r (.int i)) : RunO K F (tPart te) r (some i) := fun s B H ok Q q => h s B H ok _ fun v B1 H1 g1 dv => by
  cases dv
  exact ⟨i, rfl, q B1 H1 g1⟩
theorem run_slT {to th : TO} {lo hi : Option Int} (h : RunE K F te r (.tuple ds)) (hl : RunO K F to r lo) (hh : RunO K F th r hi) : RunE K F (tSl (rSlAny K) te to th) r (.tuple (cutD ds lo hi)) := fun s B H ok Q q =>
  h s B H ok _ fun v B1 H1 g1 dv => hl s B1 H1 (ok.grow g1) _ fun B2 H2 g2 => hh s B2 H2 (ok.grow (g1.trans g2)) _ fun B3 H3 g3 => by
    obtain ⟨p, xs, rfl, h1, a1⟩ := dp_tup dv
    have g23 := g2.trans g3
    have g := g1.trans g23
    have h3 := sqT_mono g23.bb h1
    have a3 := dpAll_mono g23.bb _ _ a1
    refine .inl ⟨p, xs, rfl, sqT_mono g.bh h3, fun e => ?_, fun _ l hl => ?_⟩
    · refine q _ B3 H3 g (.tup h3 ?_)
      rw [cut_all (by rw [← dpAll_len a1]; exact e)]
      exact a3
    · exact q _ _ _ (g.trans (Grow.lay g.bh hl)) (.tup (SqT.of upd_same) (dpAll_mono (Same.new (g.bh.free hl)) _ _ (cut_dp a3)))
theorem run_slL {to th : TO} {lo hi : Option Int} (h : RunE K F te r (.list ds)) (hl : RunO K F to r lo) (hh : RunO K F th r hi) : RunL K F (tSl (rSlAny K) te to th) r (cutD ds lo hi) := fun s B H ok Q q =>
  h s B H ok _ fun v B1 H1 g1 dv => hl s B1 H1 (ok.grow g1) _ fun B2 H2 g2 => hh s B2 H2 (ok.grow (g1.trans g2)) _ fun B3 H3 g3 => by
    obtain ⟨p, xs, rfl, h1, a1⟩ := dp_lst dv
    have g23 := g2.trans g3
    have g := g1.trans g23
    refine .inr (.inl ⟨p, xs, rfl, (g23.bb.trans g.bh).seq h1, fun l hl => ?_⟩)
    exact q l _ B3 _ (g.trans (Grow.out g.bh hl)) (Same.free g.hh hl) (g.bh.free hl) upd_same (cut_dp (dpAll_mono g23.bb _ _ a1))
theorem run_slS {to th : TO} {lo hi : Option Int} {z : Str} (h : RunE K F te r (.str z)) (hz : z.length ≤ 1000000) (hl : RunO K F to r lo) (hh : RunO K F th r hi) : RunE K F (tSl (rSlAny K) te to th) r (.str (cutS z lo hi)) := fun s B H ok Q q =>
  h s B H ok _ fun v B1 H1 g1 dv => hl s B1 H1 (ok.grow g1) _ fun B2 H2 g2 => hh s B2 H2 (ok.grow (g1.trans g2)) _ fun B3 H3 g3 => by
    cases dv
    exact .inr (.inr ⟨z, rfl, line_of hz, q _ B3 H3 (g1.trans (g2.trans g3)) (.str _)⟩)
theorem run_rev (h : RunE K F te r (.tuple ds)) : RunE K F (tRevT K te) r (.tuple ds.reverse) := fun s B H ok Q q => h s B H ok _ fun v B1 H1 g1 dv => by
  obtain ⟨p, xs, rfl, h1, a1⟩ := dp_tup dv
  exact ⟨p, xs, rfl, sqT_mono g1.bh h1, fun l hl => q _ _ _ (g1.trans (Grow.lay g1.bh hl)) (.tup (SqT.of upd_same) (dpAll_mono (Same.new (g1.bh.free hl)) _ _ (dpAll_rev a1)))⟩
/-- displays whose object is known -/
theorem run_tupF {t : TA} (h : RunA K F t r ds) (hl : ds.length ≤ 1000000) : RunE K F (tTupF t) r (.tuple ds) := fun s B H ok Q q => h s B H ok _ fun vs B1 H1 g1 dvs =>
  ⟨by rw [dpAll_len dvs]; exact line_of hl, fun p o _ _ hp => q _ _ _ (g1.trans (Grow.lay g1.bh hp)) (.tup (.inl (.inr ⟨o, upd_same⟩)) (dpAll_mono (Same.new (g1.bh.free hp)) _ _ dvs))⟩
theorem run_tupP {t : TA} (h : RunA K F t r ds) (hl : ds.length ≤ 1000000) : RunV K F (tTupF t) r (fun B v => Dp K B v (.tuple ds) ∧ ∃ b, v = .ref b ∧ PlainT K B b ds) := fun s B H ok Q q => h s B H ok _ fun vs B1 H1 g1 dvs =>
  ⟨by rw [dpAll_len dvs]; exact line_of hl, fun p o h1 h2 hp => q _ _ _ (g1.trans (Grow.lay g1.bh hp)) ⟨.tup (.inl (.inr ⟨o, upd_same⟩)) (dpAll_mono (Same.new (g1.bh.free hp)) _ _ dvs), p, rfl, o, vs, upd_same, h2, h1, dpAll_mono (Same.new (g1.bh.free hp)) _ _ dvs⟩⟩

/-! ### built-in calls -/
theorem call_lenT : CallD K (rLenA K) [.tuple ds] (.int ds.length) := fun B H vs s dv Q q => by
  cases dv with
  | cons h n =>
    cases n
    obtain ⟨p, xs, rfl, h1, a1⟩ := dp_tup h
    refine ⟨_, ds.length, rfl, .inr ⟨xs, sqT_mono s h1, (dpAll_len a1).symm⟩, q _ B H (Grow.refl s) (.int _)⟩
theorem call_lenL : CallD K (rLenA K) [.list ds] (.int ds.length) := fun B H vs s dv Q q => by
  cases dv with
  | cons h n =>
    cases n
    obtain ⟨p, xs, rfl, h1, a1⟩ := dp_lst h
    refine ⟨_, ds.length, rfl, .inl ⟨xs, s.seq h1, (dpAll_len a1).symm⟩, q _ B H (Grow.refl s) (.int _)⟩
theorem call_lenS {z : Str} (hz : z.length ≤ 1000000) : CallD K (rLenA K) [.str z] (.int z.length) := fun B H vs s dv Q q => by
  cases dv with
  | cons h n =>
    cases n
    cases h
    exact ⟨_, z.length, rfl, ⟨line_of hz, rfl⟩, q _ B H (Grow.refl s) (.int _)⟩
theorem dpAll_bls {B : Hp} : ∀ {bs : List Bool} {vs : List V}, DpAll K B vs (bs.map PyData.bool) → vs = bs.map V.bl
  | [], _, h => by cases h; rfl
  | x :: xs, _, h => by
    cases h with
    | cons h1 h2 =>
      cases h1
      rw [List.map_cons, dpAll_bls h2]
theorem dpAll_ints {B : Hp} : ∀ {bs : List Int} {vs : List V}, DpAll K B vs (bs.map PyData.int) → vs = bs.map V.int
  | [], _, h => by cases h; rfl
  | x :: xs, _, h => by
    cases h with
    | cons h1 h2 =>
      cases h1
      rw [List.map_cons, dpAll_ints h2]
theorem call_all {bs : List Bool} : CallD K (rAll K) [.list (bs.map .bool)] (.bool (bs.all id)) := fun B H vs s dv Q q => by
  cases dv with
  | cons h n =>
    cases n
    obtain ⟨p, xs, rfl, h1, a1⟩ := dp_lst h
    rw [dpAll_bls a1] at h1
    exact ⟨p, bs, rfl, s.seq h1, q _ B H (Grow.refl s) (.bl _)⟩
theorem call_any {bs : List Bool} : CallD K (rAny K) [.list (bs.map .bool)] (.bool (bs.any id)) := fun B H vs s dv Q q => by
  cases dv with
  | cons h n =>
    cases n
    obtain ⟨p, xs, rfl, h1, a1⟩ := dp_lst h
    rw [dpAll_bls a1] at h1
    exact ⟨p, bs, rfl, s.seq h1, q _ B H (Grow.refl s) (.bl _)⟩
theorem call_sum {ns : List Int} : CallD K (rSum K) [.list (ns.map .int)] (.int ns.sum) := fun B H vs s dv Q q => by
  cases dv with
  | cons h n =>
    cases n
    obtain ⟨p, xs, rfl, h1, a1⟩ := dp_lst h
    rw [dpAll_ints a1] at h1
    exact ⟨p, ns, rfl, s.seq h1, q _ B H (Grow.refl s) (.int _)⟩
theorem call_max {i j : Int} : CallD K rMaxI [.int i, .int j] (.int (if j > i then j else i)) := fun B H vs s dv Q q => by
  cases dv with
  | cons h n =>
    cases n with
    | cons h' n =>
      cases n
      cases h
      cases h'
      exact ⟨i, j, rfl, q _ B H (Grow.refl s) (.int _)⟩
/-- all([.. for ..]), any([..]), sum([..]) -/
theorem run_all {al : Type} {l : List al} {p : al → Bool} (h : RunE K F te r (.list (l.map fun x => .bool (p x)))) : RunE K F (tCB (rAll K) (tCons te tNil)) r (.bool (l.all p)) := by
  have e : (l.map fun x => PyData.bool (p x)) = (l.map p).map PyData.bool := by rw [List.map_map] <;> rfl
  rw [e] at h
  refine (run_cb (run_a h run_a0) call_all).is ?_
  rw [List.all_map] <;> rfl
theorem run_any {al : Type} {l : List al} {p : al → Bool} (h : RunE K F te r (.list (l.map fun x => .bool (p x)))) : RunE K F (tCB (rAny K) (tCons te tNil)) r (.bool (l.any p)) := by
  have e : (l.map fun x => PyData.bool (p x)) = (l.map p).map PyData.bool := by rw [List.map_map] <;> rfl
  rw [e] at h
  refine (run_cb (run_a h run_a0) call_any).is ?_
  rw [List.any_map] <;> rfl
theorem run_sum {al : Type} {l : List al} {p : al → Int} (h : RunE K F te r (.list (l.map fun x => .int (p x)))) : RunE K F (tCB (rSum K) (tCons te tNil)) r (.int (l.map p).sum) := by
  have e : (l.map fun x => PyData.int (p x)) = (l.map p).map PyData.int := by rw [List.map_map] <;> rfl
  rw [e] at h
  exact run_cb (run_a h run_a0) call_sum
/-- list(x), tuple(x) -/
theorem run_listT {ta : TA} (h : RunA K F ta r [.tuple ds]) : RunL K F (tCB (rListA K) ta) r ds := fun s B H ok Q q => h s B H ok _ fun vs B1 H1 g1 dv => by
  cases dv with
  | cons h n =>
    cases n
    obtain ⟨p, xs, rfl, h1, a1⟩ := dp_tup h
    exact ⟨p, xs, rfl, .inr (sqT_mono g1.bh h1), fun l hl => q l xs B1 _ (g1.trans (Grow.out g1.bh hl)) (Same.free g1.hh hl) (g1.bh.free hl) upd_same a1⟩
theorem run_listL {ta : TA} (h : RunA K F ta r [.list ds]) : RunL K F (tCB (rListA K) ta) r ds := fun s B H ok Q q => h s B H ok _ fun vs B1 H1 g1 dv => by
  cases dv with
  | cons h n =>
    cases n
    obtain ⟨p, xs, rfl, h1, a1⟩ := dp_lst h
    exact ⟨p, xs, rfl, .inl (g1.bh.seq h1), fun l hl => q l xs B1 _ (g1.trans (Grow.out g1.bh hl)) (Same.free g1.hh hl) (g1.bh.free hl) upd_same a1⟩
theorem run_tupL {ta : TA} (h : RunA K F ta r [.list ds]) : RunE K F (tCB (rTupA K) ta) r (.tuple ds) := fun s B H ok Q q => h s B H ok _ fun vs B1 H1 g1 dv => by
  cases dv with
  | cons h n =>
    cases n
    obtain ⟨p, xs, rfl, h1, a1⟩ := dp_lst h
    exact ⟨p, xs, rfl, .inl ⟨g1.bh.seq h1, fun l hl => q _ _ _ (g1.trans (Grow.lay g1.bh hl)) (.tup (SqT.of upd_same) (dpAll_mono (Same.new (g1.bh.free hl)) _ _ a1))⟩⟩
/-- sorted(xs) -/
theorem run_sorted {ta : TA} (h : RunA K F ta r [.list ds]) (h1 : PySem.W.AllAlike ds) (h2 : PySem.W.Sortable ds) (h3 : ∀ d ∈ ds, d.depth ≤ 60) : RunL K F (tCB (rSortD K) ta) r (ds.mergeSort (PySem.W.dataLe false id)) := fun s B H ok Q q => h s B H ok _ fun vs B1 H1 g1 dv => by
  cases dv with
  | cons h n =>
    cases n
    obtain ⟨p, xs, rfl, hl, a1⟩ := dp_lst h
    exact ⟨p, xs, ds, B1, rfl, g1.bh.seq hl, dpAll_mono g1.bh _ _ a1, a1, h1, h2, h3, fun l ys hl' hy => q l ys B1 _ (g1.trans (Grow.out g1.bh hl')) (Same.free g1.hh hl') (g1.bh.free hl') upd_same hy⟩
end
end Ts
set_option Elab.async false
set_option linter.all false
set_option maxRecDepth 100000
set_option maxHeartbeats 2000000
/-! Promises of defs over data, by the number of their parameters; calls; a def from its body. -/
namespace Ts
open PySem PySem.Spec PyProof.Rows L2

/-- a parameter: data, or a world -/
inductive Pk (al : Type) where
  | d (e : al → PyData)
  | w (e : al → PyData)
def Pk.R {al : Type} (K : PySem.W.Frag) : Pk al → al → Hp → V → Prop
  | .d e, a, B, v => Dp K B v (e a)
  | .w e, a, B, v => Dp K B v (e a) ∧ PlainW K B v (e a)
def Pk.ent {al : Type} : Pk al → al → Ent
  | .d e, a => .d (e a)
  | .w e, a => .wld (e a)
theorem Pk.mono {al : Type} {K : PySem.W.Frag} {B B' : Hp} {v : V} (k : Pk al) {a : al} (s : Same B B') (h : k.R K a B v) : k.R K a B' v := by
  cases k with
  | d e => exact dp_mono s _ _ h
  | w e => exact ⟨dp_mono s _ _ h.1, h.2.mono s⟩
theorem Pk.ok {al : Type} {K : PySem.W.Frag} {F : Fx} {B H : Hp} {v : V} (k : Pk al) {a : al} (h : k.R K a B v) : EntOk K F B H v (k.ent a) := by
  cases k with
  | d e => exact h
  | w e => exact h
theorem Pk.no {al : Type} (k : Pk al) {a : al} {ds : List PyData} : k.ent a ≠ .own ds := by
  cases k <;> exact fun z => nomatch z
def RunP {al : Type} (K : PySem.W.Frag) (F : Fx) (te : TE) (r : PEnv) (k : Pk al) (a : al) : Prop := RunV K F te r (k.R K a)
section
variable {K : PySem.W.Frag} {F : Fx} {r : PEnv} {te : TE}
theorem rp_d {al : Type} {e : al → PyData} {a : al} (h : RunE K F te r (e a)) : RunP K F te r (.d e) a := h
theorem rp_w {al : Type} {e : al → PyData} {a : al} {i : Nat} (h : r[i]? = some (some (.wld (e a)))) : RunP K F (tVar i) r (.w e) a := fun s B H ok Q q => by
  obtain ⟨v, x, y⟩ := ok.ent i _ h
  exact ⟨v, x, q v B H (Grow.refl ok.bh) y⟩
end
inductive Ents (K : PySem.W.Frag) (F : Fx) (B H : Hp) : List V → List Ent → Prop
  | nil : Ents K F B H [] []
  | cons {v : V} {e : Ent} {vs : List V} {es : List Ent} : EntOk K F B H v e → (∀ ds, e ≠ .own ds) → Ents K F B H vs es → Ents K F B H (v :: vs) (e :: es)
theorem Ents.len {K : PySem.W.Frag} {F : Fx} {B H : Hp} {vs : List V} {es : List Ent} (h : Ents K F B H vs es) : vs.length = es.length := by
  induction h with
  | nil => rfl
  | cons _ _ _ ih => rw [List.length_cons, List.length_cons, ih]
theorem Ents.get {K : PySem.W.Frag} {F : Fx} {B H : Hp} {vs : List V} {es : List Ent} (h : Ents K F B H vs es) : ∀ {i : Nat} {e : Ent}, es[i]? = some e → ∃ v, vs[i]? = some v ∧ EntOk K F B H v e ∧ ∀ ds, e ≠ .own ds := by
  induction h with
  | nil => intro i e q; simp at q
  | @cons v e vs es h1 h2 _ ih =>
    intro i e' q
    cases i with
    | zero =>
      have q' : e = e' := by simpa using q
      subst q'
      exact ⟨v, rfl, h1, h2⟩
    | succ i =>
      obtain ⟨v', a, b⟩ := ih (i := i) (e := e') (by simpa using q)
      exact ⟨v', by simpa using a, b⟩
theorem some_app {al : Type} {xs : List al} {m i : Nat} {x : al} (h : (xs.map some ++ List.replicate m none)[i]? = some (some x)) : xs[i]? = some x := by
  by_cases hi : i < xs.length
  · rw [List.getElem?_append_left (by simpa using hi), List.getElem?_map] at h
    obtain ⟨y, hy, e⟩ := Option.map_eq_some_iff.mp h
    cases e
    exact hy
  · rw [List.getElem?_append_right (by simpa using hi), List.getElem?_replicate] at h
    split at h <;> cases h
theorem env_start {K : PySem.W.Frag} {F : Fx} {B H : Hp} {vs : List V} {es : List Ent} {m : Nat} (h : Ents K F B H vs es) (he : F.He = H) (hb : F.Be = B) (sb : Same B H) (ht : ∀ p, F.tw = some p → B p = none ∧ H p ≠ none) :
    EnvOk K F B H (vs.map some ++ List.replicate m none) (es.map some ++ List.replicate m none) := by
  subst he hb
  refine ⟨sb, Same.refl _, sb, fun _ _ => rfl, fun _ _ q _ => q, ht, by rw [List.length_append, List.length_append, List.length_map, List.length_map, h.len, List.length_replicate, List.length_replicate], fun i e q => ?_, fun i j di dj p qi => ?_⟩
  · obtain ⟨v, a, b, _⟩ := h.get (some_app q)
    refine ⟨v, ?_, b⟩
    rw [List.getElem?_append_left (by rw [List.length_map]; exact (List.getElem?_eq_some_iff.mp a).1), List.getElem?_map, a]
    rfl
  · obtain ⟨v, _, _, c⟩ := h.get (some_app qi)
    exact absurd rfl (c di)
abbrev ends0 (post : Hp → V → Prop) : Pst := ⟨fun _ => ∀ B, post B .non, fun _ B v => post B v, fun _ => False, fun _ => False⟩

def sp1 {al : Type} (K : PySem.W.Frag) (k1 : Pk al) (pre : al → Prop) (post : al → Hp → V → Prop) : Sp := fun vs H Q _ => ∃ B v1 x1, vs = [v1] ∧ Same B H ∧ k1.R K x1 B v1 ∧ pre x1 ∧ ∀ v B' H', Grow B H B' H' → post x1 B' v → Q v H'

theorem run_call1 {al : Type} {K : PySem.W.Frag} {F : Fx} {r : PEnv} {t1 : TE} {k1 : Pk al} {pre : al → Prop} {post : al → Hp → V → Prop} {x1 : al} (h1 : RunP K F t1 r k1 x1) (hp : pre x1) :
    RunV K F (tCall (sp1 K k1 pre post) [] E0 (tCons t1 tNil)) r (post x1) := fun s B0 H0 ok0 Q q =>
  h1 s B0 H0 ok0 _ fun v1 B1 H1 g1 d1 =>
  ⟨B1, v1, x1, rfl, g1.bh, d1, hp, fun v B' H' g z => q v B' H' ((g1).trans g) z⟩
theorem fn1 {al : Type} {P : Program} {w : World} {K : PySem.W.Frag} {mg : Str → Option Value} {base : Heap} {x qual : Str} {st : Stmt} {f : Addr} {fd : FuncData} {N : List Str} {p1 : Str} {k : Nat} {k1 : Pk al} {pre : al → Prop} {post : al → Hp → V → Prop}
    (Fn : Fun K x qual st f fd) (S : FnScope N [p1] (defScope st))
    (body : ∀ (cdv : Value) (A : Around) (outer : List Env) (s : Shared) (H : Hp) (E : XK), Room k (A.deeper (envOfC qual (defScope st) s.heap.objs.size f cdv)) →
      ∃ t, PSs (cxOf CX0 P w K mg base N qual (defScope st) f cdv A outer s H E).nox (defBody st) t ∧ ∀ x1, pre x1 → ∀ F : Fx, F.tw = none → RunS K F t ([k1.ent x1].map some ++ List.replicate (N.length - 1) none) (ends0 (post x1))) :
    FnOk P w K mg base CX0 (k + 1) f fd [p1] (sp1 K k1 pre post) := by
  refine Fn.ok S (fun vs H Q E h => ?_) (fun cdv A outer s H vs Q E hr h => ?_)
  · obtain ⟨B, v1, x1, rfl, _⟩ := h
    rfl
  · obtain ⟨B, v1, x1, rfl, sb, d1, hp, q⟩ := h
    obtain ⟨t, ht, hrun⟩ := body cdv A outer s H E hr
    refine ⟨t, ht, ?_⟩
    have en : Ents K ⟨H, B, none, 0⟩ B H [v1] [k1.ent x1] := .cons (k1.ok d1) (fun ds => k1.no) <| .nil
    have ok := env_start (m := N.length - 1) en rfl rfl sb (fun p e => nomatch e)
    refine hrun x1 hp ⟨H, B, none, 0⟩ rfl _ B H ok _ (fun s' B' H' r' z ok' e => ?_) (fun v s' B' H' r' z ok' e => ?_) (fun _ _ _ _ z => z.elim) (fun _ _ _ _ z => z.elim)
    · exact q _ B' H' ⟨ok'.bb, ok'.bh, fun a o e => ok'.keep a o e (fun z => nomatch z), fun a ha => ok'.new a ha⟩ (z B')
    · exact q _ B' H' ⟨ok'.bb, ok'.bh, fun a o e => ok'.keep a o e (fun z => nomatch z), fun a ha => ok'.new a ha⟩ z

def sp2 {al be : Type} (K : PySem.W.Frag) (k1 : Pk al) (k2 : Pk be) (pre : al → be → Prop) (post : al → be → Hp → V → Prop) : Sp := fun vs H Q _ => ∃ B v1 v2 x1 x2, vs = [v1, v2] ∧ Same B H ∧ k1.R K x1 B v1 ∧ k2.R K x2 B v2 ∧ pre x1 x2 ∧ ∀ v B' H', Grow B H B' H' → post x1 x2 B' v → Q v H'

theorem run_call2 {al be : Type} {K : PySem.W.Frag} {F : Fx} {r : PEnv} {t1 t2 : TE} {k1 : Pk al} {k2 : Pk be} {pre : al → be → Prop} {post : al → be → Hp → V → Prop} {x1 : al} {x2 : be} (h1 : RunP K F t1 r k1 x1) (h2 : RunP K F t2 r k2 x2) (hp : pre x1 x2) :
    RunV K F (tCall (sp2 K k1 k2 pre post) [] E0 (tCons t1 (tCons t2 tNil))) r (post x1 x2) := fun s B0 H0 ok0 Q q =>
  h1 s B0 H0 ok0 _ fun v1 B1 H1 g1 d1 =>
  have g1' := g1
  h2 s B1 H1 (ok0.grow g1') _ fun v2 B2 H2 g2 d2 =>
  ⟨B2, v1, v2, x1, x2, rfl, g2.bh, (k1.mono g2.bb d1), d2, hp, fun v B' H' g z => q v B' H' ((g1'.trans g2).trans g) z⟩
theorem fn2 {al be : Type} {P : Program} {w : World} {K : PySem.W.Frag} {mg : Str → Option Value} {base : Heap} {x qual : Str} {st : Stmt} {f : Addr} {fd : FuncData} {N : List Str} {p1 p2 : Str} {k : Nat} {k1 : Pk al} {k2 : Pk be} {pre : al → be → Prop} {post : al → be → Hp → V → Prop}
    (Fn : Fun K x qual st f fd) (S : FnScope N [p1, p2] (defScope st))
    (body : ∀ (cdv : Value) (A : Around) (outer : List Env) (s : Shared) (H : Hp) (E : XK), Room k (A.deeper (envOfC qual (defScope st) s.heap.objs.size f cdv)) →
      ∃ t, PSs (cxOf CX0 P w K mg base N qual (defScope st) f cdv A outer s H E).nox (defBody st) t ∧ ∀ x1 x2, pre x1 x2 → ∀ F : Fx, F.tw = none → RunS K F t ([k1.ent x1, k2.ent x2].map some ++ List.replicate (N.length - 2) none) (ends0 (post x1 x2))) :
    FnOk P w K mg base CX0 (k + 1) f fd [p1, p2] (sp2 K k1 k2 pre post) := by
  refine Fn.ok S (fun vs H Q E h => ?_) (fun cdv A outer s H vs Q E hr h => ?_)
  · obtain ⟨B, v1, v2, x1, x2, rfl, _⟩ := h
    rfl
  · obtain ⟨B, v1, v2, x1, x2, rfl, sb, d1, d2, hp, q⟩ := h
    obtain ⟨t, ht, hrun⟩ := body cdv A outer s H E hr
    refine ⟨t, ht, ?_⟩
    have en : Ents K ⟨H, B, none, 0⟩ B H [v1, v2] [k1.ent x1, k2.ent x2] := .cons (k1.ok d1) (fun ds => k1.no) <| .cons (k2.ok d2) (fun ds => k2.no) <| .nil
    have ok := env_start (m := N.length - 2) en rfl rfl sb (fun p e => nomatch e)
    refine hrun x1 x2 hp ⟨H, B, none, 0⟩ rfl _ B H ok _ (fun s' B' H' r' z ok' e => ?_) (fun v s' B' H' r' z ok' e => ?_) (fun _ _ _ _ z => z.elim) (fun _ _ _ _ z => z.elim)
    · exact q _ B' H' ⟨ok'.bb, ok'.bh, fun a o e => ok'.keep a o e (fun z => nomatch z), fun a ha => ok'.new a ha⟩ (z B')
    · exact q _ B' H' ⟨ok'.bb, ok'.bh, fun a o e => ok'.keep a o e (fun z => nomatch z), fun a ha => ok'.new a ha⟩ z

def sp3 {al be ga : Type} (K : PySem.W.Frag) (k1 : Pk al) (k2 : Pk be) (k3 : Pk ga) (pre : al → be → ga → Prop) (post : al → be → ga → Hp → V → Prop) : Sp := fun vs H Q _ => ∃ B v1 v2 v3 x1 x2 x3, vs = [v1, v2, v3] ∧ Same B H ∧ k1.R K x1 B v1 ∧ k2.R K x2 B v2 ∧ k3.R K x3 B v3 ∧ pre x1 x2 x3 ∧ ∀ v B' H', Grow B H B' H' → post x1 x2 x3 B' v → Q v H'

theorem run_call3 {al be ga : Type} {K : PySem.W.Frag} {F : Fx} {r : PEnv} {t1 t2 t3 : TE} {k1 : Pk al} {k2 : Pk be} {k3 : Pk ga} {pre : al → be → ga → Prop} {post : al → be → ga → Hp → V → Prop} {x1 : al} {x2 : be} {x3 : ga} (h1 : RunP K F t1 r k1 x1) (h2 : RunP K F t2 r k2 x2) (h3 : RunP K F t3 r k3 x3) (hp : pre x1 x2 x3) :
    RunV K F (tCall (sp3 K k1 k2 k3 pre post) [] E0 (tCons t1 (tCons t2 (tCons t3 tNil)))) r (post x1 x2 x3) := fun s B0 H0 ok0 Q q =>
  h1 s B0 H0 ok0 _ fun v1 B1 H1 g1 d1 =>
  have g1' := g1
  h2 s B1 H1 (ok0.grow g1') _ fun v2 B2 H2 g2 d2 =>
  have g2' := g1'.trans g2
  h3 s B2 H2 (ok0.grow g2') _ fun v3 B3 H3 g3 d3 =>
  ⟨B3, v1, v2, v3, x1, x2, x3, rfl, g3.bh, (k1.mono g3.bb (k1.mono g2.bb d1)), (k2.mono g3.bb d2), d3, hp, fun v B' H' g z => q v B' H' ((g2'.trans g3).trans g) z⟩
theorem fn3 {al be ga : Type} {P : Program} {w : World} {K : PySem.W.Frag} {mg : Str → Option Value} {base : Heap} {x qual : Str} {st : Stmt} {f : Addr} {fd : FuncData} {N : List Str} {p1 p2 p3 : Str} {k : Nat} {k1 : Pk al} {k2 : Pk be} {k3 : Pk ga} {pre : al → be → ga → Prop} {post : al → be → ga → Hp → V → Prop}
    (Fn : Fun K x qual st f fd) (S : FnScope N [p1, p2, p3] (defScope st))
    (body : ∀ (cdv : Value) (A : Around) (outer : List Env) (s : Shared) (H : Hp) (E : XK), Room k (A.deeper (envOfC qual (defScope st) s.heap.objs.size f cdv)) →
      ∃ t, PSs (cxOf CX0 P w K mg base N qual (defScope st) f cdv A outer s H E).nox (defBody st) t ∧ ∀ x1 x2 x3, pre x1 x2 x3 → ∀ F : Fx, F.tw = none → RunS K F t ([k1.ent x1, k2.ent x2, k3.ent x3].map some ++ List.replicate (N.length - 3) none) (ends0 (post x1 x2 x3))) :
    FnOk P w K mg base CX0 (k + 1) f fd [p1, p2, p3] (sp3 K k1 k2 k3 pre post) := by
  refine Fn.ok S (fun vs H Q E h => ?_) (fun cdv A outer s H vs Q E hr h => ?_)
  · obtain ⟨B, v1, v2, v3, x1, x2, x3, rfl, _⟩ := h
    rfl
  · obtain ⟨B, v1, v2, v3, x1, x2, x3, rfl, sb, d1, d2, d3, hp, q⟩ := h
    obtain ⟨t, ht, hrun⟩ := body cdv A outer s H E hr
    refine ⟨t, ht, ?_⟩
    have en : Ents K ⟨H, B, none, 0⟩ B H [v1, v2, v3] [k1.ent x1, k2.ent x2, k3.ent x3] := .cons (k1.ok d1) (fun ds => k1.no) <| .cons (k2.ok d2) (fun ds => k2.no) <| .cons (k3.ok d3) (fun ds => k3.no) <| .nil
    have ok := env_start (m := N.length - 3) en rfl rfl sb (fun p e => nomatch e)
    refine hrun x1 x2 x3 hp ⟨H, B, none, 0⟩ rfl _ B H ok _ (fun s' B' H' r' z ok' e => ?_) (fun v s' B' H' r' z ok' e => ?_) (fun _ _ _ _ z => z.elim) (fun _ _ _ _ z => z.elim)
    · exact q _ B' H' ⟨ok'.bb, ok'.bh, fun a o e => ok'.keep a o e (fun z => nomatch z), fun a ha => ok'.new a ha⟩ (z B')
    · exact q _ B' H' ⟨ok'.bb, ok'.bh, fun a o e => ok'.keep a o e (fun z => nomatch z), fun a ha => ok'.new a ha⟩ z

def sp4 {al be ga de : Type} (K : PySem.W.Frag) (k1 : Pk al) (k2 : Pk be) (k3 : Pk ga) (k4 : Pk de) (pre : al → be → ga → de → Prop) (post : al → be → ga → de → Hp → V → Prop) : Sp := fun vs H Q _ => ∃ B v1 v2 v3 v4 x1 x2 x3 x4, vs = [v1, v2, v3, v4] ∧ Same B H ∧ k1.R K x1 B v1 ∧ k2.R K x2 B v2 ∧ k3.R K x3 B v3 ∧ k4.R K x4 B v4 ∧ pre x1 x2 x3 x4 ∧ ∀ v B' H', Grow B H B' H' → post x1 x2 x3 x4 B' v → Q v H'

theorem run_call4 {al be ga de : Type} {K : PySem.W.Frag} {F : Fx} {r : PEnv} {t1 t2 t3 t4 : TE} {k1 : Pk al} {k2 : Pk be} {k3 : Pk ga} {k4 : Pk de} {pre : al → be → ga → de → Prop} {post : al → be → ga → de → Hp → V → Prop} {x1 : al} {x2 : be} {x3 : ga} {x4 : de} (h1 : RunP K F t1 r k1 x1) (h2 : RunP K F t2 r k2 x2) (h3 : RunP K F t3 r k3 x3) (h4 : RunP K F t4 r k4 x4) (hp : pre x1 x2 x3 x4) :
    RunV K F (tCall (sp4 K k1 k2 k3 k4 pre post) [] E0 (tCons t1 (tCons t2 (tCons t3 (tCons t4 tNil))))) r (post x1 x2 x3 x4) := fun s B0 H0 ok0 Q q =>
  h1 s B0 H0 ok0 _ fun v1 B1 H1 g1 d1 =>
  have g1' := g1
  h2 s B1 H1 (ok0.grow g1') _ fun v2 B2 H2 g2 d2 =>
  have g2' := g1'.trans g2
  h3 s B2 H2 (ok0.grow g2') _ fun v3 B3 H3 g3 d3 =>
  have g3' := g2'.trans g3
  h4 s B3 H3 (ok0.grow g3') _ fun v4 B4 H4 g4 d4 =>
  ⟨B4, v1, v2, v3, v4, x1, x2, x3, x4, rfl, g4.bh, (k1.mono g4.bb (k1.mono g3.bb (k1.mono g2.bb d1))), (k2.mono g4.bb (k2.mono g3.bb d2)), (k3.mono g4.bb d3), d4, hp, fun v B' H' g z => q v B' H' ((g3'.trans g4).trans g) z⟩
theorem fn4 {al be ga de : Type} {P : Program} {w : World} {K : PySem.W.Frag} {mg : Str → Option Value} {base : Heap} {x qual : Str} {st : Stmt} {f : Addr} {fd : FuncData} {N : List Str} {p1 p2 p3 p4 : Str} {k : Nat} {k1 : Pk al} {k2 : Pk be} {k3 : Pk ga} {k4 : Pk de} {pre : al → be → ga → de → Prop} {post : al → be → ga → de → Hp → V → Prop}
    (Fn : Fun K x qual st f fd) (S : FnScope N [p1, p2, p3, p4] (defScope st))
    (body : ∀ (cdv : Value) (A : Around) (outer : List Env) (s : Shared) (H : Hp) (E : XK), Room k (A.deeper (envOfC qual (defScope st) s.heap.objs.size f cdv)) →
      ∃ t, PSs (cxOf CX0 P w K mg base N qual (defScope st) f cdv A outer s H E).nox (defBody st) t ∧ ∀ x1 x2 x3 x4, pre x1 x2 x3 x4 → ∀ F : Fx, F.tw = none → RunS K F t ([k1.ent x1, k2.ent x2, k3.ent x3, k4.ent x4].map some ++ List.replicate (N.length - 4) none) (ends0 (post x1 x2 x3 x4))) :
    FnOk P w K mg base CX0 (k + 1) f fd [p1, p2, p3, p4] (sp4 K k1 k2 k3 k4 pre post) := by
  refine Fn.ok S (fun vs H Q E h => ?_) (fun cdv A outer s H vs Q E hr h => ?_)
  · obtain ⟨B, v1, v2, v3, v4, x1, x2, x3, x4, rfl, _⟩ := h
    rfl
  · obtain ⟨B, v1, v2, v3, v4, x1, x2, x3, x4, rfl, sb, d1, d2, d3, d4, hp, q⟩ := h
    obtain ⟨t, ht, hrun⟩ := body cdv A outer s H E hr
    refine ⟨t, ht, ?_⟩
    have en : Ents K ⟨H, B, none, 0⟩ B H [v1, v2, v3, v4] [k1.ent x1, k2.ent x2, k3.ent x3, k4.ent x4] := .cons (k1.ok d1) (fun ds => k1.no) <| .cons (k2.ok d2) (fun ds => k2.no) <| .cons (k3.ok d3) (fun ds => k3.no) <| .cons (k4.ok d4) (fun ds => k4.no) <| .nil
    have ok := env_start (m := N.length - 4) en rfl rfl sb (fun p e => nomatch e)
    refine hrun x1 x2 x3 x4 hp ⟨H, B, none, 0⟩ rfl _ B H ok _ (fun s' B' H' r' z ok' e => ?_) (fun v s' B' H' r' z ok' e => ?_) (fun _ _ _ _ z => z.elim) (fun _ _ _ _ z => z.elim)
    · exact q _ B' H' ⟨ok'.bb, ok'.bh, fun a o e => ok'.keep a o e (fun z => nomatch z), fun a ha => ok'.new a ha⟩ (z B')
    · exact q _ B' H' ⟨ok'.bb, ok'.bh, fun a o e => ok'.keep a o e (fun z => nomatch z), fun a ha => ok'.new a ha⟩ z

def sp5 {al be ga de ep : Type} (K : PySem.W.Frag) (k1 : Pk al) (k2 : Pk be) (k3 : Pk ga) (k4 : Pk de) (k5 : Pk ep) (pre : al → be → ga → de → ep → Prop) (post : al → be → ga → de → ep → Hp → V → Prop) : Sp := fun vs H Q _ => ∃ B v1 v2 v3 v4 v5 x1 x2 x3 x4 x5, vs = [v1, v2, v3, v4, v5] ∧ Same B H ∧ k1.R K x1 B v1 ∧ k2.R K x2 B v2 ∧ k3.R K x3 B v3 ∧ k4.R K x4 B v4 ∧ k5.R K x5 B v5 ∧ pre x1 x2 x3 x4 x5 ∧ ∀ v B' H', Grow B H B' H' → post x1 x2 x3 x4 x5 B' v → Q v H'

theorem run_call5 {al be ga de ep : Type} {K : PySem.W.Frag} {F : Fx} {r : PEnv} {t1 t2 t3 t4 t5 : TE} {k1 : Pk al} {k2 : Pk be} {k3 : Pk ga} {k4 : Pk de} {k5 : Pk ep} {pre : al → be → ga → de → ep → Prop} {post : al → be → ga → de → ep → Hp → V → Prop} {x1 : al} {x2 : be} {x3 : ga} {x4 : de} {x5 : ep} (h1 : RunP K F t1 r k1 x1) (h2 : RunP K F t2 r k2 x2) (h3 : RunP K F t3 r k3 x3) (h4 : RunP K F t4 r k4 x4) (h5 : RunP K F t5 r k5 x5) (hp : pre x1 x2 x3 x4 x5) :
    RunV K F (tCall (sp5 K k1 k2 k3 k4 k5 pre post) [] E0 (tCons t1 (tCons t2 (tCons t3 (tCons t4 (tCons t5 tNil)))))) r (post x1 x2 x3 x4 x5) := fun s B0 H0 ok0 Q q =>
  h1 s B0 H0 ok0 _ fun v1 B1 H1 g1 d1 =>
  have g1' := g1
  h2 s B1 H1 (ok0.grow g1') _ fun v2 B2 H2 g2 d2 =>
  have g2' := g1'.trans g2
  h3 s B2 H2 (ok0.grow g2') _ fun v3 B3 H3 g3 d3 =>
  have g3' := g2'.trans g3
  h4 s B3 H3 (ok0.grow g3') _ fun v4 B4 H4 g4 d4 =>
  have g4' := g3'.trans g4
  h5 s B4 H4 (ok0.grow g4') _ fun v5 B5 H5 g5 d5 =>
  ⟨B5, v1, v2, v3, v4, v5, x1, x2, x3, x4, x5, rfl, g5.bh, (k1.mono g5.bb (k1.mono g4.bb (k1.mono g3.bb (k1.mono g2.bb d1)))), (k2.mono g5.bb (k2.mono g4.bb (k2.mono g3.bb d2))), (k3.mono g5.bb (k3.mono g4.bb d3)), (k4.mono g5.bb d4), d5, hp, fun v B' H' g z => q v B' H' ((g4'.trans g5).trans g) z⟩
theorem fn5 {al be ga de ep : Type} {P : Program} {w : World} {K : PySem.W.Frag} {mg : Str → Option Value} {base : Heap} {x qual : Str} {st : Stmt} {f : Addr} {fd : FuncData} {N : List Str} {p1 p2 p3 p4 p5 : Str} {k : Nat} {k1 : Pk al} {k2 : Pk be} {k3 : Pk ga} {k4 : Pk de} {k5 : Pk ep} {pre : al → be → ga → de → ep → Prop} {post : al → be → ga → de → ep → Hp → V → Prop}
    (Fn : Fun K x qual st f fd) (S : FnScope N [p1, p2, p3, p4, p5] (defScope st))
    (body : ∀ (cdv : Value) (A : Around) (outer : List Env) (s : Shared) (H : Hp) (E : XK), Room k (A.deeper (envOfC qual (defScope st) s.heap.objs.size f cdv)) →
      ∃ t, PSs (cxOf CX0 P w K mg base N qual (defScope st) f cdv A outer s H E).nox (defBody st) t ∧ ∀ x1 x2 x3 x4 x5, pre x1 x2 x3 x4 x5 → ∀ F : Fx, F.tw = none → RunS K F t ([k1.ent x1, k2.ent x2, k3.ent x3, k4.ent x4, k5.ent x5].map some ++ List.replicate (N.length - 5) none) (ends0 (post x1 x2 x3 x4 x5))) :
    FnOk P w K mg base CX0 (k + 1) f fd [p1, p2, p3, p4, p5] (sp5 K k1 k2 k3 k4 k5 pre post) := by
  refine Fn.ok S (fun vs H Q E h => ?_) (fun cdv A outer s H vs Q E hr h => ?_)
  · obtain ⟨B, v1, v2, v3, v4, v5, x1, x2, x3, x4, x5, rfl, _⟩ := h
    rfl
  · obtain ⟨B, v1, v2, v3, v4, v5, x1, x2, x3, x4, x5, rfl, sb, d1, d2, d3, d4, d5, hp, q⟩ := h
    obtain ⟨t, ht, hrun⟩ := body cdv A outer s H E hr
    refine ⟨t, ht, ?_⟩
    have en : Ents K ⟨H, B, none, 0⟩ B H [v1, v2, v3, v4, v5] [k1.ent x1, k2.ent x2, k3.ent x3, k4.ent x4, k5.ent x5] := .cons (k1.ok d1) (fun ds => k1.no) <| .cons (k2.ok d2) (fun ds => k2.no) <| .cons (k3.ok d3) (fun ds => k3.no) <| .cons (k4.ok d4) (fun ds => k4.no) <| .cons (k5.ok d5) (fun ds => k5.no) <| .nil
    have ok := env_start (m := N.length - 5) en rfl rfl sb (fun p e => nomatch e)
    refine hrun x1 x2 x3 x4 x5 hp ⟨H, B, none, 0⟩ rfl _ B H ok _ (fun s' B' H' r' z ok' e => ?_) (fun v s' B' H' r' z ok' e => ?_) (fun _ _ _ _ z => z.elim) (fun _ _ _ _ z => z.elim)
    · exact q _ B' H' ⟨ok'.bb, ok'.bh, fun a o e => ok'.keep a o e (fun z => nomatch z), fun a ha => ok'.new a ha⟩ (z B')
    · exact q _ B' H' ⟨ok'.bb, ok'.bh, fun a o e => ok'.keep a o e (fun z => nomatch z), fun a ha => ok'.new a ha⟩ z

end Ts
set_option Elab.async false
set_option linter.all false
set_option maxRecDepth 100000
set_option maxHeartbeats 2000000
/-! The program's text by its places. -/
namespace Ts
open PySem PySem.Spec PyProof.Rows L2
def topS (i : Nat) : Stmt := PySem.Challenge.pw_traitsure_k41_whole_choices.main.body.getD i (.Pass ⟨0, 0, 0, 0⟩)
abbrev s_is_between : Stmt := topS 10
abbrev s_are_small : Stmt := topS 11
abbrev s_is_constructor : Stmt := topS 12
abbrev s_are_traits : Stmt := topS 13
abbrev s_is_world : Stmt := topS 14
abbrev s_check_world : Stmt := topS 15
abbrev s_trait_names : Stmt := topS 16
abbrev s_form_of : Stmt := topS 17
abbrev s_is_sort_with : Stmt := topS 18
abbrev s_size_in : Stmt := topS 19
abbrev s_check_sort : Stmt := topS 20
abbrev s_check_trait : Stmt := topS 21
abbrev s_reckoned : Stmt := topS 22
abbrev s_is_reckoning : Stmt := topS 23
abbrev s_is_short : Stmt := topS 24
abbrev s_is_body : Stmt := topS 25
abbrev s_are_asks : Stmt := topS 26
abbrev s_is_known_instance : Stmt := topS 27
abbrev s_are_instances : Stmt := topS 28
abbrev s_check_set : Stmt := topS 29
abbrev s_check_ask : Stmt := topS 30
abbrev s_does_fit : Stmt := topS 31
abbrev s_fits_roots : Stmt := topS 33
abbrev s_more_special : Stmt := topS 34
abbrev s_chosen_of : Stmt := topS 35
abbrev s_fitting : Stmt := topS 37
abbrev s_stands : Stmt := topS 38
abbrev s_holds : Stmt := topS 39
abbrev s_ends_from : Stmt := topS 40
abbrev s_dead_ends : Stmt := topS 41
abbrev s_do_overlap : Stmt := topS 43
abbrev s_found_overlaps : Stmt := topS 44
abbrev s_overlaps : Stmt := topS 45
abbrev s_found_tangles : Stmt := topS 47
abbrev s_tangles : Stmt := topS 48
abbrev s_check_loose : Stmt := topS 49
abbrev s_chosen_for : Stmt := topS 50
abbrev s_chosen : Stmt := topS 51
abbrev s_stands_specially : Stmt := topS 52
abbrev s_holds_specially : Stmt := topS 53
abbrev s__law_town : Stmt := topS 55
abbrev s__law_draw : Stmt := topS 56
abbrev s__law_pick : Stmt := topS 57
abbrev s__law_world : Stmt := topS 58
abbrev s__law_traits : Stmt := topS 59
abbrev s__law_body : Stmt := topS 60
abbrev s__law_instance : Stmt := topS 61
abbrev s__law_set : Stmt := topS 62
abbrev s__law_sort : Stmt := topS 63
abbrev s__law_fits : Stmt := topS 64
abbrev s__law_loose : Stmt := topS 65
abbrev s__law_best : Stmt := topS 66
abbrev s__law_special : Stmt := topS 67
abbrev s_law : Stmt := topS 68
theorem sc_is_between : FnScope ["value", "low", "high"] ["value", "low", "high"] (defScope s_is_between) := ⟨rfl, rfl, rfl, by decide +kernel, rfl, by decide +kernel, by decide +kernel⟩
theorem sc_are_small : FnScope ["value", "low", "high", "sign"] ["value", "low", "high"] (defScope s_are_small) := ⟨rfl, rfl, rfl, by decide +kernel, rfl, by decide +kernel, by decide +kernel⟩
theorem sc_is_constructor : FnScope ["value"] ["value"] (defScope s_is_constructor) := ⟨rfl, rfl, rfl, by decide +kernel, rfl, by decide +kernel, by decide +kernel⟩
theorem sc_are_traits : FnScope ["value", "earlier", "trait", "name", "form", "below", "one", "k"] ["value"] (defScope s_are_traits) := ⟨rfl, rfl, rfl, by decide +kernel, rfl, by decide +kernel, by decide +kernel⟩
theorem sc_is_world : FnScope ["value", "some", "one", "k", "name", "parts"] ["value"] (defScope s_is_world) := ⟨rfl, rfl, rfl, by decide +kernel, rfl, by decide +kernel, by decide +kernel⟩
theorem sc_check_world : FnScope ["value"] ["value"] (defScope s_check_world) := ⟨rfl, rfl, rfl, by decide +kernel, rfl, by decide +kernel, by decide +kernel⟩
theorem sc_trait_names : FnScope ["world", "name", "form", "below"] ["world"] (defScope s_trait_names) := ⟨rfl, rfl, rfl, by decide +kernel, rfl, by decide +kernel, by decide +kernel⟩
theorem sc_form_of : FnScope ["world", "trait", "name", "form", "below"] ["world", "trait"] (defScope s_form_of) := ⟨rfl, rfl, rfl, by decide +kernel, rfl, by decide +kernel, by decide +kernel⟩
theorem sc_is_sort_with : FnScope ["world", "value", "names", "part"] ["world", "value", "names"] (defScope s_is_sort_with) := ⟨rfl, rfl, rfl, by decide +kernel, rfl, by decide +kernel, by decide +kernel⟩
theorem sc_size_in : FnScope ["sort", "part"] ["sort"] (defScope s_size_in) := ⟨rfl, rfl, rfl, by decide +kernel, rfl, by decide +kernel, by decide +kernel⟩
theorem sc_check_sort : FnScope ["world", "sort", "names"] ["world", "sort", "names"] (defScope s_check_sort) := ⟨rfl, rfl, rfl, by decide +kernel, rfl, by decide +kernel, by decide +kernel⟩
theorem sc_check_trait : FnScope ["world", "trait"] ["world", "trait"] (defScope s_check_trait) := ⟨rfl, rfl, rfl, by decide +kernel, rfl, by decide +kernel, by decide +kernel⟩
theorem sc_reckoned : FnScope ["value", "part"] ["value"] (defScope s_reckoned) := ⟨rfl, rfl, rfl, by decide +kernel, rfl, by decide +kernel, by decide +kernel⟩
theorem sc_is_reckoning : FnScope ["world", "value", "parts", "part", "row"] ["world", "value", "parts"] (defScope s_is_reckoning) := ⟨rfl, rfl, rfl, by decide +kernel, rfl, by decide +kernel, by decide +kernel⟩
theorem sc_is_short : FnScope ["world", "value", "parts"] ["world", "value", "parts"] (defScope s_is_short) := ⟨rfl, rfl, rfl, by decide +kernel, rfl, by decide +kernel, by decide +kernel⟩
theorem sc_is_body : FnScope ["world", "trait", "root", "value", "parts", "part", "row"] ["world", "trait", "root", "value"] (defScope s_is_body) := ⟨rfl, rfl, rfl, by decide +kernel, rfl, by decide +kernel, by decide +kernel⟩
theorem sc_are_asks : FnScope ["world", "value", "parts", "ask", "k"] ["world", "value", "parts"] (defScope s_are_asks) := ⟨rfl, rfl, rfl, by decide +kernel, rfl, by decide +kernel, by decide +kernel⟩
theorem sc_is_known_instance : FnScope ["world", "value", "trait", "root", "limits", "asks", "body", "table", "one", "limit"] ["world", "value"] (defScope s_is_known_instance) := ⟨rfl, rfl, rfl, by decide +kernel, rfl, by decide +kernel, by decide +kernel⟩
theorem sc_are_instances : FnScope ["world", "value", "most", "one"] ["world", "value", "most"] (defScope s_are_instances) := ⟨rfl, rfl, rfl, by decide +kernel, rfl, by decide +kernel, by decide +kernel⟩
theorem sc_check_set : FnScope ["world", "instances"] ["world", "instances"] (defScope s_check_set) := ⟨rfl, rfl, rfl, by decide +kernel, rfl, by decide +kernel, by decide +kernel⟩
theorem sc_check_ask : FnScope ["world", "instances", "trait", "sort"] ["world", "instances", "trait", "sort"] (defScope s_check_ask) := ⟨rfl, rfl, rfl, by decide +kernel, rfl, by decide +kernel, by decide +kernel⟩
theorem sc_does_fit : FnScope ["instance", "sort", "limit", "part"] ["instance", "sort"] (defScope s_does_fit) := ⟨rfl, rfl, rfl, by decide +kernel, rfl, by decide +kernel, by decide +kernel⟩
theorem sc_fits_roots : FnScope ["instance", "root", "roots", "limit", "one"] ["instance", "root", "roots"] (defScope s_fits_roots) := ⟨rfl, rfl, rfl, by decide +kernel, rfl, by decide +kernel, by decide +kernel⟩
theorem sc_more_special : FnScope ["one", "other", "first", "second"] ["one", "other"] (defScope s_more_special) := ⟨rfl, rfl, rfl, by decide +kernel, rfl, by decide +kernel, by decide +kernel⟩
theorem sc_chosen_of : FnScope ["instances", "trait", "root", "roots", "rows", "number", "one", "other", "two"] ["instances", "trait", "root", "roots"] (defScope s_chosen_of) := ⟨rfl, rfl, rfl, by decide +kernel, rfl, by decide +kernel, by decide +kernel⟩
theorem sc_fitting : FnScope ["instances", "trait", "sort", "rows", "number", "one"] ["instances", "trait", "sort"] (defScope s_fitting) := ⟨rfl, rfl, rfl, by decide +kernel, rfl, by decide +kernel, by decide +kernel⟩
theorem sc_stands : FnScope ["instances", "trait", "sort", "number", "one", "other", "part"] ["instances", "trait", "sort"] (defScope s_stands) := ⟨rfl, rfl, rfl, by decide +kernel, rfl, by decide +kernel, by decide +kernel⟩
theorem sc_holds : FnScope ["world", "instances", "trait", "sort"] ["world", "instances", "trait", "sort"] (defScope s_holds) := ⟨rfl, rfl, rfl, by decide +kernel, rfl, by decide +kernel, by decide +kernel⟩
theorem sc_ends_from : FnScope ["instances", "trait", "sort", "rows", "found", "number", "one", "other", "part"] ["instances", "trait", "sort"] (defScope s_ends_from) := ⟨rfl, rfl, rfl, by decide +kernel, rfl, by decide +kernel, by decide +kernel⟩
theorem sc_dead_ends : FnScope ["world", "instances", "trait", "sort", "found", "ask"] ["world", "instances", "trait", "sort"] (defScope s_dead_ends) := ⟨rfl, rfl, rfl, by decide +kernel, rfl, by decide +kernel, by decide +kernel⟩
theorem sc_do_overlap : FnScope ["one", "other", "first", "second"] ["one", "other"] (defScope s_do_overlap) := ⟨rfl, rfl, rfl, by decide +kernel, rfl, by decide +kernel, by decide +kernel⟩
theorem sc_found_overlaps : FnScope ["instances", "found", "first", "one", "second", "other"] ["instances"] (defScope s_found_overlaps) := ⟨rfl, rfl, rfl, by decide +kernel, rfl, by decide +kernel, by decide +kernel⟩
theorem sc_overlaps : FnScope ["world", "instances"] ["world", "instances"] (defScope s_overlaps) := ⟨rfl, rfl, rfl, by decide +kernel, rfl, by decide +kernel, by decide +kernel⟩
theorem sc_found_tangles : FnScope ["instances", "found", "first", "one", "second", "other"] ["instances"] (defScope s_found_tangles) := ⟨rfl, rfl, rfl, by decide +kernel, rfl, by decide +kernel, by decide +kernel⟩
theorem sc_tangles : FnScope ["world", "instances"] ["world", "instances"] (defScope s_tangles) := ⟨rfl, rfl, rfl, by decide +kernel, rfl, by decide +kernel, by decide +kernel⟩
theorem sc_check_loose : FnScope ["instances"] ["instances"] (defScope s_check_loose) := ⟨rfl, rfl, rfl, by decide +kernel, rfl, by decide +kernel, by decide +kernel⟩
theorem sc_chosen_for : FnScope ["instances", "trait", "sort", "part"] ["instances", "trait", "sort"] (defScope s_chosen_for) := ⟨rfl, rfl, rfl, by decide +kernel, rfl, by decide +kernel, by decide +kernel⟩
theorem sc_chosen : FnScope ["world", "instances", "trait", "sort"] ["world", "instances", "trait", "sort"] (defScope s_chosen) := ⟨rfl, rfl, rfl, by decide +kernel, rfl, by decide +kernel, by decide +kernel⟩
theorem sc_stands_specially : FnScope ["instances", "trait", "sort", "number", "other", "part"] ["instances", "trait", "sort"] (defScope s_stands_specially) := ⟨rfl, rfl, rfl, by decide +kernel, rfl, by decide +kernel, by decide +kernel⟩
theorem sc_holds_specially : FnScope ["world", "instances", "trait", "sort"] ["world", "instances", "trait", "sort"] (defScope s_holds_specially) := ⟨rfl, rfl, rfl, by decide +kernel, rfl, by decide +kernel, by decide +kernel⟩
theorem sc__law_town : FnScope ["_law_script"] ["_law_script"] (defScope s__law_town) := ⟨rfl, rfl, rfl, by decide +kernel, rfl, by decide +kernel, by decide +kernel⟩
theorem sc__law_draw : FnScope ["_law_script", "_law_town_here", "_law_limit", "_law_at", "_law_left", "_law_number"] ["_law_script", "_law_town_here", "_law_limit"] (defScope s__law_draw) := ⟨rfl, rfl, rfl, by decide +kernel, rfl, by decide +kernel, by decide +kernel⟩
theorem sc__law_pick : FnScope ["_law_script", "_law_town_here", "_law_choices"] ["_law_script", "_law_town_here", "_law_choices"] (defScope s__law_pick) := ⟨rfl, rfl, rfl, by decide +kernel, rfl, by decide +kernel, by decide +kernel⟩
theorem sc__law_world : FnScope ["_law_script", "_law_town_here", "_law_rows", "_law_traits_here", "_law_earlier", "_law_name", "_law_below", "_law_form", "_law_one"] ["_law_script", "_law_town_here"] (defScope s__law_world) := ⟨rfl, rfl, rfl, by decide +kernel, rfl, by decide +kernel, by decide +kernel⟩
theorem sc__law_traits : FnScope ["_law_world_here", "_law_row"] ["_law_world_here"] (defScope s__law_traits) := ⟨rfl, rfl, rfl, by decide +kernel, rfl, by decide +kernel, by decide +kernel⟩
theorem sc__law_body : FnScope ["_law_script", "_law_town_here", "_law_world_here", "_law_trait", "_law_parts", "_law_asks", "_law_form", "_law_tells", "_law_number", "_law_reckoning", "_law_makes", "_law_rows", "_law_other", "_law_part", "_law_loose_here", "_law_row", "_law_k"] ["_law_script", "_law_town_here", "_law_world_here", "_law_trait", "_law_parts", "_law_asks"] (defScope s__law_body) := ⟨rfl, rfl, rfl, by decide +kernel, rfl, by decide +kernel, by decide +kernel⟩
theorem sc__law_instance : FnScope ["_law_script", "_law_town_here", "_law_world_here", "_law_trait", "_law_root", "_law_parts", "_law_limits", "_law_asks", "_law_part", "_law_limit", "_law_name", "_law_row"] ["_law_script", "_law_town_here", "_law_world_here"] (defScope s__law_instance) := ⟨rfl, rfl, rfl, by decide +kernel, rfl, by decide +kernel, by decide +kernel⟩
theorem sc__law_set : FnScope ["_law_script", "_law_town_here", "_law_world_here", "_law_most", "_law_k"] ["_law_script", "_law_town_here", "_law_world_here", "_law_most"] (defScope s__law_set) := ⟨rfl, rfl, rfl, by decide +kernel, rfl, by decide +kernel, by decide +kernel⟩
theorem sc__law_sort : FnScope ["_law_script", "_law_town_here", "_law_world_here", "_law_depth", "_law_plain_ones", "_law_name", "_law_parts", "_law_row", "_law_k"] ["_law_script", "_law_town_here", "_law_world_here", "_law_depth"] (defScope s__law_sort) := ⟨rfl, rfl, rfl, by decide +kernel, rfl, by decide +kernel, by decide +kernel⟩
theorem sc__law_fits : FnScope ["_law_instance_here", "_law_sort_here", "_law_k"] ["_law_instance_here", "_law_sort_here"] (defScope s__law_fits) := ⟨rfl, rfl, rfl, by decide +kernel, rfl, by decide +kernel, by decide +kernel⟩
theorem sc__law_loose : FnScope ["_law_script", "_law_town_here", "_law_world_here", "_law_found", "_law_one"] ["_law_script", "_law_town_here", "_law_world_here"] (defScope s__law_loose) := ⟨rfl, rfl, rfl, by decide +kernel, rfl, by decide +kernel, by decide +kernel⟩
theorem sc__law_best : FnScope ["_law_instances", "_law_trait", "_law_sort_here", "_law_rows", "_law_number", "_law_one", "_law_limit"] ["_law_instances", "_law_trait", "_law_sort_here"] (defScope s__law_best) := ⟨rfl, rfl, rfl, by decide +kernel, rfl, by decide +kernel, by decide +kernel⟩
theorem sc__law_special : FnScope ["_law_instances", "_law_trait", "_law_sort_here", "_law_number", "_law_other", "_law_part"] ["_law_instances", "_law_trait", "_law_sort_here"] (defScope s__law_special) := ⟨rfl, rfl, rfl, by decide +kernel, rfl, by decide +kernel, by decide +kernel⟩
theorem sc_law : FnScope ["_law_script", "_law_town_here", "_law_world_here", "_law_instances", "_law_k", "_law_trait", "_law_sort_here", "_law_specially", "_law_none", "_law_other", "_law_number", "_law_first"] ["_law_script"] (defScope s_law) := ⟨rfl, rfl, rfl, by decide +kernel, rfl, by decide +kernel, by decide +kernel⟩
structure FnAt (K : PySem.W.Frag) (mg : Str → Option Value) (nm : Str) (st : Stmt) (ps : List Str) where
  f : Addr
  fd : FuncData
  F : Fun K nm nm st f fd
  b : Binds K fd ps []
  m : mg nm = some (.ref f)
structure Tb (K : PySem.W.Frag) (mg : Str → Option Value) where
  g_all : mg "all" = none
  g_any : mg "any" = none
  g_bool : mg "bool" = none
  g_dict : mg "dict" = none
  g_enumerate : mg "enumerate" = none
  g_int : mg "int" = none
  g_isinstance : mg "isinstance" = none
  g_len : mg "len" = none
  g_list : mg "list" = none
  g_max : mg "max" = none
  g_range : mg "range" = none
  g_sorted : mg "sorted" = none
  g_str : mg "str" = none
  g_sum : mg "sum" = none
  g_tuple : mg "tuple" = none
  g_zip : mg "zip" = none
  k_GREAT : Tok
  c_GREAT : mg "GREAT" = some (.str "ABCDEFGHIJKLMNOPQRSTUVWXYZ" k_GREAT)
  k_SMALL : Tok
  c_SMALL : mg "SMALL" = some (.str "abcdefghijklmnopqrstuvwxyz" k_SMALL)
  is_between : FnAt K mg "is_between" s_is_between ["value", "low", "high"]
  are_small : FnAt K mg "are_small" s_are_small ["value", "low", "high"]
  is_constructor : FnAt K mg "is_constructor" s_is_constructor ["value"]
  are_traits : FnAt K mg "are_traits" s_are_traits ["value"]
  is_world : FnAt K mg "is_world" s_is_world ["value"]
  check_world : FnAt K mg "check_world" s_check_world ["value"]
  trait_names : FnAt K mg "trait_names" s_trait_names ["world"]
  form_of : FnAt K mg "form_of" s_form_of ["world", "trait"]
  is_sort_with : FnAt K mg "is_sort_with" s_is_sort_with ["world", "value", "names"]
  size_in : FnAt K mg "size_in" s_size_in ["sort"]
  check_sort : FnAt K mg "check_sort" s_check_sort ["world", "sort", "names"]
  check_trait : FnAt K mg "check_trait" s_check_trait ["world", "trait"]
  reckoned : FnAt K mg "reckoned" s_reckoned ["value"]
  is_reckoning : FnAt K mg "is_reckoning" s_is_reckoning ["world", "value", "parts"]
  is_short : FnAt K mg "is_short" s_is_short ["world", "value", "parts"]
  is_body : FnAt K mg "is_body" s_is_body ["world", "trait", "root", "value"]
  are_asks : FnAt K mg "are_asks" s_are_asks ["world", "value", "parts"]
  is_known_instance : FnAt K mg "is_known_instance" s_is_known_instance ["world", "value"]
  are_instances : FnAt K mg "are_instances" s_are_instances ["world", "value", "most"]
  check_set : FnAt K mg "check_set" s_check_set ["world", "instances"]
  check_ask : FnAt K mg "check_ask" s_check_ask ["world", "instances", "trait", "sort"]
  does_fit : FnAt K mg "does_fit" s_does_fit ["instance", "sort"]
  fits_roots : FnAt K mg "fits_roots" s_fits_roots ["instance", "root", "roots"]
  more_special : FnAt K mg "more_special" s_more_special ["one", "other"]
  chosen_of : FnAt K mg "chosen_of" s_chosen_of ["instances", "trait", "root", "roots"]
  fitting : FnAt K mg "fitting" s_fitting ["instances", "trait", "sort"]
  stands : FnAt K mg "stands" s_stands ["instances", "trait", "sort"]
  holds : FnAt K mg "holds" s_holds ["world", "instances", "trait", "sort"]
  ends_from : FnAt K mg "ends_from" s_ends_from ["instances", "trait", "sort"]
  dead_ends : FnAt K mg "dead_ends" s_dead_ends ["world", "instances", "trait", "sort"]
  do_overlap : FnAt K mg "do_overlap" s_do_overlap ["one", "other"]
  found_overlaps : FnAt K mg "found_overlaps" s_found_overlaps ["instances"]
  overlaps : FnAt K mg "overlaps" s_overlaps ["world", "instances"]
  found_tangles : FnAt K mg "found_tangles" s_found_tangles ["instances"]
  tangles : FnAt K mg "tangles" s_tangles ["world", "instances"]
  check_loose : FnAt K mg "check_loose" s_check_loose ["instances"]
  chosen_for : FnAt K mg "chosen_for" s_chosen_for ["instances", "trait", "sort"]
  chosen : FnAt K mg "chosen" s_chosen ["world", "instances", "trait", "sort"]
  stands_specially : FnAt K mg "stands_specially" s_stands_specially ["instances", "trait", "sort"]
  holds_specially : FnAt K mg "holds_specially" s_holds_specially ["world", "instances", "trait", "sort"]
  _law_town : FnAt K mg "_law_town" s__law_town ["_law_script"]
  _law_draw : FnAt K mg "_law_draw" s__law_draw ["_law_script", "_law_town_here", "_law_limit"]
  _law_pick : FnAt K mg "_law_pick" s__law_pick ["_law_script", "_law_town_here", "_law_choices"]
  _law_world : FnAt K mg "_law_world" s__law_world ["_law_script", "_law_town_here"]
  _law_traits : FnAt K mg "_law_traits" s__law_traits ["_law_world_here"]
  _law_body : FnAt K mg "_law_body" s__law_body ["_law_script", "_law_town_here", "_law_world_here", "_law_trait", "_law_parts", "_law_asks"]
  _law_instance : FnAt K mg "_law_instance" s__law_instance ["_law_script", "_law_town_here", "_law_world_here"]
  _law_set : FnAt K mg "_law_set" s__law_set ["_law_script", "_law_town_here", "_law_world_here", "_law_most"]
  _law_sort : FnAt K mg "_law_sort" s__law_sort ["_law_script", "_law_town_here", "_law_world_here", "_law_depth"]
  _law_fits : FnAt K mg "_law_fits" s__law_fits ["_law_instance_here", "_law_sort_here"]
  _law_loose : FnAt K mg "_law_loose" s__law_loose ["_law_script", "_law_town_here", "_law_world_here"]
  _law_best : FnAt K mg "_law_best" s__law_best ["_law_instances", "_law_trait", "_law_sort_here"]
  _law_special : FnAt K mg "_law_special" s__law_special ["_law_instances", "_law_trait", "_law_sort_here"]
  law : FnAt K mg "law" s_law ["_law_script"]
section
variable {X : Cx} {k : Nat} {A : Around}
theorem hu64 (hr : Room k A) : A.units + 64 < cLine := hr.units
theorem hu65 (hr : Room k A) : A.units + 65 < cLine := by have := hr.un; omega
theorem hu1 (hr : Room k A) : A.units + 1 < cLine := by have := hr.un; omega
def plainName (x : Str) : Bool := !(x == ("__debug__" : Str)) && !(x == ("__classdict__" : Str))
theorem vr (i : Nat) {x : Str} {pos : Pos} (hN : X.N[i]? = some x) (hv : Vis X.env.scope x) (hp : plainName x = true := by decide +kernel) : PE X (.Name x pos) (tVar i) := by
  unfold plainName at hp
  rw [Bool.and_eq_true] at hp
  exact pe_var hN hv (by simpa using hp.1) (by simpa using hp.2)
end
section
variable {X : Cx} (K : PySem.W.Frag) (h : X.K = K)
include h
theorem op_eqK (hu : X.A.units + 64 < cLine) : OpR X (compareOp .Eq) (rEqA K) := h ▸ op_eqA hu
theorem op_neK (hu : X.A.units + 64 < cLine) : OpR X (compareOp .NotEq) (rNeA K) := h ▸ op_neA hu
theorem op_ltK (hu : X.A.units + 64 < cLine) : OpR X (compareOp .Lt) (rLtD K) := h ▸ op_ltD hu
theorem op_inK (hu : X.A.units + 65 < cLine) : OpR X (compareOp .In) (rInA K false) := h ▸ op_inA hu
theorem op_ninK (hu : X.A.units + 65 < cLine) : OpR X (compareOp .NotIn) (rInA K true) := h ▸ op_notInA hu
theorem op_plusK : OpR X (binaryOp .Add) (rPlus K) := h ▸ op_plus
theorem ix_K : IxR X (rIx K) := h ▸ ix_seq
theorem sl_K : SlR X (rSlAny K) := h ▸ sl_any
theorem call_isiK2 : CallR X (.builtin "isinstance") (rIsi K) := h ▸ call_isi
theorem call_lenK : CallR X (.builtin "len") (rLenA K) := h ▸ call_lenA
theorem pg_tupK {es : List Expr} {k : Nat} {t : TGs} {n : Nat} {pos : Pos} (hc : X.calm = true) (hs : PGs X es t) (hn : (assignEach es X.env).length = n := by rfl) (hst : (assignEach es X.env).findIdx? (·.1) = none := by rfl) : PG X (.Tuple es k pos) (gTup K n t) := h ▸ pg_tup hc hs hn hst
end
end Ts
set_option Elab.async false
set_option linter.all false
set_option maxRecDepth 100000
set_option maxHeartbeats 2000000
/-! Kinds of data, dicts, answers that are not known, effects on the draws. -/
namespace Ts
open PySem PySem.Spec PyProof.Rows L2

theorem cxK {CX : CXT} {P : Program} {w : World} {K : PySem.W.Frag} {mg : Str → Option Value} {base : Heap} {N : List Str} {q : Str} {sc : Scope} {f : Addr} {cdv : Value} {A : Around} {outer : List Env} {s : Shared} {H : Hp} {E : XK} : (cxOf CX P w K mg base N q sc f cdv A outer s H E).nox.K = K := rfl
theorem cxK2 {CX : CXT} {P : Program} {w : World} {K : PySem.W.Frag} {mg : Str → Option Value} {base : Heap} {N : List Str} {q : Str} {sc : Scope} {f : Addr} {cdv : Value} {A : Around} {outer : List Env} {s : Shared} {H : Hp} {E : XK} : (cxOf CX P w K mg base N q sc f cdv A outer s H E).K = K := rfl
section
variable {K : PySem.W.Frag} {F : Fx} {r r1 r2 : PEnv} {te ta tb tc td ty : TE} {tt tu : TT} {d a b c : PyData} {P : Hp → V → Prop} {ds es : List PyData} {t u : TS} {E : Pst}
/-! ### isinstance -/
def tyN : PyData → String
  | .none => "NoneType"
  | .bool _ => "bool"
  | .int _ => "int"
  | .str _ => "str"
  | .list _ => "list"
  | .tuple _ => "tuple"
  | .dict _ => "dict"
theorem tyx_dp {B H : Hp} {v : V} (e : Same B H) (h : Dp K B v d) : TyX K H v (.type (tyN d)) := by
  cases h with
  | non => exact .base .non
  | bl x => exact .base (.bl x)
  | int x => exact .base (.int x)
  | str x => exact .base (.str x)
  | lst h _ =>
    rcases h with (h | ⟨o, h⟩) | ⟨o, _, _, h, c, _⟩
    · exact .base (.lst (e _ _ h))
    · exact .base (.frz (e _ _ h))
    · exact .kList h c
  | tup h _ =>
    rcases h with (h | ⟨o, h⟩) | ⟨o, _, _, h, c, _⟩
    · exact .base (.tup (e _ _ h))
    · exact .fTuple (e _ _ h)
    · exact .kTuple h c
theorem run_isi {n : String} {k : Bool} (h : RunE K F te r d) (hb : kitB (tyN d) n = some k) : RunE K F (tCB (rIsi K) (tCons te (tCons (tC (.ty n)) tNil))) r (.bool k) := fun s B H ok Q q =>
  h s B H ok _ fun v B1 H1 g1 dv => ⟨v, .ty n, _, _, k, rfl, .ty n, tyx_dp g1.bh dv, kit_ty hb, q _ B1 H1 g1 (.bl k)⟩

theorem kit_ii : kitB "int" "int" = some true := by decide +kernel
theorem kit_ib : kitB "int" "bool" = some false := by decide +kernel
theorem kit_ss : kitB "str" "str" = some true := by decide +kernel
theorem kit_st : kitB "str" "tuple" = some false := by decide +kernel
theorem kit_ts : kitB "tuple" "str" = some false := by decide +kernel
theorem kit_tt : kitB "tuple" "tuple" = some true := by decide +kernel
theorem kit_it : kitB "int" "tuple" = some false := by decide +kernel
theorem kit_ns : kitB "NoneType" "str" = some false := by decide +kernel
theorem opb_inSgF {c : Nat} {z : Str} : OpB K (rInA K false) (.str ⟨#[c]⟩) (.str z) (decide (c ∈ z.cps.toList)) := opb_inSg
theorem opb_inSLF {x : Str} {xs : List Str} : OpB K (rInA K false) (.str x) (.list (xs.map .str)) (decide (x ∈ xs)) := opb_inSL
theorem opb_inSTF {x : Str} {xs : List Str} : OpB K (rInA K false) (.str x) (.tuple (xs.map .str)) (decide (x ∈ xs)) := opb_inST
theorem opb_inDF (h1 : SeqAt.shaped a = true) (h2 : SeqAt.shaped (.list ds) = true) : OpB K (rInA K false) a (.list ds) (ds.any fun z => PyData.eqv z a) := opb_inD h1 h2
theorem opb_inS2F {x y z : Str} : OpB K (rInA K false) (.str x) (.tuple [.str y, .str z]) (decide (x ∈ [y, z])) := opb_inSTF (xs := [y, z])
theorem opb_inS2T {x y z : Str} : OpB K (rInA K true) (.str x) (.tuple [.str y, .str z]) (!decide (x ∈ [y, z])) := opb_inST (xs := [y, z])
theorem opb_inSLT {x : Str} {xs : List Str} : OpB K (rInA K true) (.str x) (.list (xs.map .str)) (!decide (x ∈ xs)) := opb_inSL
theorem opb_inSTT {x : Str} {xs : List Str} : OpB K (rInA K true) (.str x) (.tuple (xs.map .str)) (!decide (x ∈ xs)) := opb_inST
theorem opb_inDT (h1 : SeqAt.shaped a = true) (h2 : SeqAt.shaped (.list ds) = true) : OpB K (rInA K true) a (.list ds) (!ds.any fun z => PyData.eqv z a) := opb_inD h1 h2
theorem atI_zero {al : Type} {x : al} {xs : List al} : atI (x :: xs) 0 = some x := by
  unfold atI ixN
  rw [if_pos (Int.le_refl 0), if_pos (by rw [List.length_cons]; omega)]
  rfl
theorem atI_nat {al : Type} {x : al} {xs : List al} {i : Nat} (h : xs[i]? = some x) : atI xs (i : Int) = some x := by
  have hl := (List.getElem?_eq_some_iff.mp h).1
  unfold atI ixN
  rw [if_pos (by omega), if_pos (by omega)]
  exact h
theorem atI_one {al : Type} {x y : al} {xs : List al} : atI (x :: y :: xs) 1 = some y := atI_nat (i := 1) rfl
theorem cutD_tail {x : PyData} : cutD (x :: ds) (some 1) none = ds := by
  unfold cutD
  have h1 : HT.sIx (x :: ds).length 0 (some 1) = 1 := by
    simp only [HT.sIx, List.length_cons]
    split <;> omega
  rw [h1]
  show List.take ((x :: ds).length - 1) (List.drop 1 (x :: ds)) = ds
  rw [List.length_cons]
  show List.take (ds.length + 1 - 1) ds = ds
  rw [Nat.add_sub_cancel, List.take_length]
/-! ### dicts -/
theorem dp_ofV {B : Hp} {v : V} (e : toV d = some v) : Dp K B v d := by
  cases d <;> first
    | (cases e; first | exact .non | exact .bl _ | exact .int _ | exact .str _)
    | (cases e)
theorem paired_dp {B H : Hp} (e : Same B H) : ∀ {kvs : List (Str × Int)} {vs : List V}, DpAll K B vs (kvs.map fun c => PyData.tuple [.str c.1, .int c.2]) →
    ∃ ps : List Addr, vs = ps.map V.ref ∧ Paired (fun p (kv : L2.Key × V) => SqT K H p [kV kv.1, kv.2]) ps (kvs.map fun c => (.inr c.1, V.int c.2))
  | [], _, h => by cases h; exact ⟨[], rfl, .nil⟩
  | c :: kvs, _, h => by
    cases h with
    | cons h1 h2 =>
      obtain ⟨ps, e1, e2⟩ := paired_dp e h2
      obtain ⟨p, xs, rfl, hs, ha⟩ := dp_tup h1
      cases ha with
      | cons a1 a2 =>
        cases a2 with
        | cons b1 b2 =>
          cases b2
          cases a1
          cases b1
          exact ⟨p :: ps, by rw [e1]; rfl, .cons (sqT_mono e hs) e2⟩
/-- dict(world[0]) -/
theorem run_dictW {i : Nat} {kvs : List (Str × Int)} {x : PyData} (h : r[i]? = some (some (.wld (.tuple [.tuple (kvs.map fun c => PyData.tuple [.str c.1, .int c.2]), x])))) :
    RunV K F (tCB (rDictT K) (tCons (tOp (rIx K) (tVar i) (tC (.int 0))) tNil)) r (fun B v => IsDct B v (mergeK [] (kvs.map fun c => (.inr c.1, V.int c.2)))) := fun s B H ok Q q => by
  obtain ⟨v, a, dv, p, b, xs, ds0, y0, e0, e, hp, o, ys, hb, ho, hc, hya⟩ := ok.ent i _ h
  subst e
  injection e0 with e0
  injection e0 with e0 _
  injection e0 with e0
  subst e0
  refine ⟨_, a, .inr (.inl ⟨p, _, 0, .ref b, rfl, rfl, sqT_mono ok.bh hp, (by simp [atI, ixN]), ?_⟩)⟩
  obtain ⟨ps, e4, pr⟩ := paired_dp (H := H) ok.bh hya
  subst e4
  exact ⟨b, o, ps, _, rfl, ok.bh _ _ hb, ho, hc, pr, fun l hl => q _ _ _ (Grow.lay ok.bh hl) ⟨l, rfl, upd_same⟩⟩
theorem run_dget {x : Str} {kvs : List (L2.Key × V)} {v : V} (hd : RunV K F td r (fun B v => IsDct B v kvs)) (hy : RunE K F ty r (.str x)) (hv : valV kvs (.inr x) = some v) (e : toV d = some v) : RunE K F (tDGet td ty) r d := fun s B H ok Q q =>
  hd s B H ok _ fun u B1 H1 g1 ⟨p, e1, hp⟩ => hy s B1 H1 (ok.grow g1) _ fun w B2 H2 g2 dw => by
    cases dw
    have := DGet.k (k := .inr x) (g2.hh _ _ (g1.bh _ _ hp))
    rw [hv] at this
    exact ⟨p, v, e1, this, q v B2 H2 (g1.trans g2) (dp_ofV e)⟩
theorem run_dget1 {x : Str} {kvs : List (L2.Key × V)} {v : V} (hd : RunV K F td r (fun B v => IsDct B v kvs)) (hy : RunE K F ty r (.str x)) (hv : valV kvs (.inr x) = some v) (e : toV d = some v) : RunE K F (tDGet1 td ty) r d := fun s B H ok Q q =>
  hd s B H ok _ fun u B1 H1 g1 ⟨p, e1, hp⟩ => ⟨p, e1, .inl ⟨kvs, .inl (g1.bh _ _ hp)⟩, hy s B1 H1 (ok.grow g1) _ fun w B2 H2 g2 dw => by
    cases dw
    have := DGet.k (k := .inr x) (g2.hh _ _ (g1.bh _ _ hp))
    rw [hv] at this
    exact ⟨_, this, q v B2 H2 (g1.trans g2) (dp_ofV e)⟩⟩
theorem run_dget1I {x : Str} {kvs : List (L2.Key × V)} {i : Int} (hd : RunV K F td r (fun B v => IsDct B v kvs)) (hy : RunE K F ty r (.str x)) (hv : valV kvs (.inr x) = some (.int i)) : RunE K F (tDGet1 td ty) r (.int i) := run_dget1 hd hy hv rfl
theorem run_dgetI {x : Str} {kvs : List (L2.Key × V)} {i : Int} (hd : RunV K F td r (fun B v => IsDct B v kvs)) (hy : RunE K F ty r (.str x)) (hv : valV kvs (.inr x) = some (.int i)) : RunE K F (tDGet td ty) r (.int i) := run_dget hd hy hv rfl
theorem run_tail {x : PyData} (h : RunE K F te r (.tuple (x :: ds))) : RunE K F (tSl (rSlAny K) te (tPart (tC (.int 1))) tNoPart) r (.tuple ds) := (run_slT h (runo_some run_int) runo_none).is (congrArg PyData.tuple cutD_tail)
theorem rung2 {vs : List Nat} {i j : Nat} (h1 : i ∈ vs := by decide) (h2 : j ∈ vs := by decide) : RunG K F vs (gTup K 2 (gCons (gName i) (gCons (gName j) gNil))) (.tuple [a, b]) r ((r.set i (some (.d a))).set j (some (.d b))) :=
  rung_tup (rungs_cons (rung_name h1) (rungs_cons (rung_name h2) rungs_nil)) rfl
theorem rung3 {vs : List Nat} {i j k : Nat} (h1 : i ∈ vs := by decide) (h2 : j ∈ vs := by decide) (h3 : k ∈ vs := by decide) : RunG K F vs (gTup K 3 (gCons (gName i) (gCons (gName j) (gCons (gName k) gNil)))) (.tuple [a, b, c]) r (((r.set i (some (.d a))).set j (some (.d b))).set k (some (.d c))) :=
  rung_tup (rungs_cons (rung_name h1) (rungs_cons (rung_name h2) (rungs_cons (rung_name h3) rungs_nil))) rfl
theorem rung5 {vs : List Nat} {i j k l m : Nat} {a4 a5 : PyData} (h1 : i ∈ vs := by decide) (h2 : j ∈ vs := by decide) (h3 : k ∈ vs := by decide) (h4 : l ∈ vs := by decide) (h5 : m ∈ vs := by decide) :
    RunG K F vs (gTup K 5 (gCons (gName i) (gCons (gName j) (gCons (gName k) (gCons (gName l) (gCons (gName m) gNil)))))) (.tuple [a, b, c, a4, a5]) r (((((r.set i (some (.d a))).set j (some (.d b))).set k (some (.d c))).set l (some (.d a4))).set m (some (.d a5))) :=
  rung_tup (rungs_cons (rung_name h1) (rungs_cons (rung_name h2) (rungs_cons (rung_name h3) (rungs_cons (rung_name h4) (rungs_cons (rung_name h5) rungs_nil))))) rfl
theorem cutD_tail2 {x y : PyData} : cutD (x :: y :: ds) (some 2) none = ds := by
  unfold cutD
  have h1 : HT.sIx (x :: y :: ds).length 0 (some 2) = 2 := by
    simp only [HT.sIx, List.length_cons]
    split <;> omega
  rw [h1]
  show List.take ((x :: y :: ds).length - 2) (List.drop 2 (x :: y :: ds)) = ds
  rw [List.length_cons, List.length_cons]
  show List.take (ds.length + 1 + 1 - 2) ds = ds
  rw [show ds.length + 1 + 1 - 2 = ds.length by omega, List.take_length]
theorem run_tail2 {x y : PyData} (h : RunE K F te r (.tuple (x :: y :: ds))) : RunE K F (tSl (rSlAny K) te (tPart (tC (.int 2))) tNoPart) r (.tuple ds) := (run_slT h (runo_some run_int) runo_none).is (congrArg PyData.tuple cutD_tail2)
end
end Ts
set_option Elab.async false
set_option linter.all false
set_option maxRecDepth 100000
set_option maxHeartbeats 2000000
/-! The program's data. -/
namespace Ts
open PySem PySem.Spec PyProof.Rows L2
structure Con where
  n : Str
  k : Nat
deriving DecidableEq
abbrev Con.D (c : Con) : PyData := .tuple [.str c.n, .int (c.k : Int)]
structure Trt where
  n : Str
  f : Str
  b : List Str
deriving DecidableEq
abbrev Trt.D (t : Trt) : PyData := .tuple [.str t.n, .str t.f, .tuple (t.b.map .str)]
structure Wd where
  cs : List Con
  ts : List Trt
abbrev Wd.D (w : Wd) : PyData := .tuple [.tuple (w.cs.map Con.D), .tuple (w.ts.map Trt.D)]
structure Ask where
  t : Str
  p : Nat
deriving DecidableEq
abbrev Ask.D (a : Ask) : PyData := .tuple [.str a.t, .int (a.p : Int)]
def limD : Option Str → PyData
  | none => .none
  | some x => .str x
structure Ins where
  t : Str
  r : Str
  l : List (Option Str)
  a : List Ask
  b : PyData
abbrev Ins.D (i : Ins) : PyData := .tuple [.str i.t, .str i.r, .tuple (i.l.map limD), .tuple (i.a.map Ask.D), i.b]
abbrev setD (S : List Ins) : PyData := .tuple (S.map Ins.D)
inductive Srt where
  | c0 (n : Str)
  | c1 (n : Str) (a : Srt)
  | c2 (n : Str) (a b : Srt)
def Srt.n : Srt → Str
  | .c0 n => n
  | .c1 n _ => n
  | .c2 n _ _ => n
def Srt.ps : Srt → List Srt
  | .c0 _ => []
  | .c1 _ a => [a]
  | .c2 _ a b => [a, b]
def Srt.T : Srt → PyData
  | .c0 n => .tuple [.str n]
  | .c1 n a => .tuple [.str n, a.T]
  | .c2 n a b => .tuple [.str n, a.T, b.T]
abbrev Srt.D (s : Srt) : PyData := .tuple (.str s.n :: s.ps.map Srt.T)
theorem Srt.T_eq (s : Srt) : s.T = s.D := by cases s <;> rfl
def Srt.dep : Srt → Nat
  | .c0 _ => 1
  | .c1 _ a => a.dep + 1
  | .c2 _ a b => max a.dep b.dep + 1
theorem Srt.dep_lt {s p : Srt} (h : p ∈ s.ps) : p.dep < s.dep := by
  cases s with
  | c0 n => cases h
  | c1 n a =>
    have : p = a := by simpa [Srt.ps] using h
    subst this
    exact Nat.lt_succ_self _
  | c2 n a b =>
    have : p = a ∨ p = b := by simpa [Srt.ps] using h
    have e : (Srt.c2 n a b).dep = max a.dep b.dep + 1 := rfl
    rw [e]
    rcases this with q | q <;> subst q <;> omega
def Srt.size : Srt → Nat
  | .c0 _ => 1
  | .c1 _ a => 1 + a.size
  | .c2 _ a b => 1 + (a.size + b.size)
inductive Rk where
  | num (n : Nat)
  | mark
  | plus (a b : Rk)
  | times (a b : Rk)
  | tell (t : Str) (p : Nat)
def Rk.D : Rk → PyData
  | .num n => .tuple [.str "number", .int (n : Int)]
  | .mark => .tuple [.str "mark"]
  | .plus a b => .tuple [.str "plus", a.D, b.D]
  | .times a b => .tuple [.str "times", a.D, b.D]
  | .tell t p => .tuple [.str "tell", .str t, .int (p : Int)]
def Rk.count : Rk → Nat
  | .plus a b => 1 + (a.count + b.count)
  | .times a b => 1 + (a.count + b.count)
  | _ => 1
def Rk.dep : Rk → Nat
  | .plus a b => max a.dep b.dep + 1
  | .times a b => max a.dep b.dep + 1
  | _ => 1
/-- the dict of a world's constructors -/
def conTab (w : Wd) : List (L2.Key × V) := mergeK [] (w.cs.map fun c => (.inr c.n, V.int (c.k : Int)))
theorem run_tab {K : PySem.W.Frag} {F : Fx} {r : PEnv} {i : Nat} {w : Wd} (h : r[i]? = some (some (.wld w.D))) : RunV K F (tCB (rDictT K) (tCons (tOp (rIx K) (tVar i) (tC (.int 0))) tNil)) r (fun B v => IsDct B v (conTab w)) := by
  have := run_dictW (K := K) (F := F) (r := r) (i := i) (kvs := w.cs.map fun c => (c.n, (c.k : Int))) (x := .tuple (w.ts.map Trt.D)) (by rw [h, List.map_map] <;> rfl)
  rw [List.map_map] at this
  exact this
/-! ### data that == can read -/
structure Sh (m : Nat) (d : PyData) : Prop where
  lay : d.canLay0 = true
  dep : d.depth ≤ m
abbrev NmOk (x : Str) : Prop := PyData.strOk x = true
theorem Sh.str {m : Nat} {x : Str} (h : NmOk x) : Sh m (.str x) := ⟨by simpa [PyData.canLay0] using h, by simp [PyData.depth]⟩
theorem Sh.int {m : Nat} {i : Int} : Sh m (.int i) := ⟨by simp [PyData.canLay0], by simp [PyData.depth]⟩
theorem Sh.non {m : Nat} : Sh m .none := ⟨by simp [PyData.canLay0], by simp [PyData.depth]⟩
theorem canAll : ∀ {l : List PyData}, (∀ x ∈ l, x.canLay0 = true) → PyData.canLayAll0 l = true
  | [], _ => by simp [PyData.canLayAll0]
  | x :: l, h => by
    rw [PyData.canLayAll0, h x List.mem_cons_self, canAll fun y hy => h y (List.mem_cons_of_mem _ hy)]
    rfl
theorem depAll {m : Nat} : ∀ {l : List PyData}, (∀ x ∈ l, x.depth ≤ m) → PyData.depthAll l ≤ m
  | [], _ => by simp [PyData.depthAll]
  | x :: l, h => by
    rw [PyData.depthAll]
    have h1 := h x List.mem_cons_self
    have h2 := depAll fun y hy => h y (List.mem_cons_of_mem x hy)
    omega
theorem Sh.tup {m : Nat} {l : List PyData} (h : ∀ x ∈ l, Sh m x) : Sh (m + 1) (.tuple l) := ⟨by rw [PyData.canLay0]; exact canAll fun x hx => (h x hx).lay, by
  rw [PyData.depth]
  have := depAll fun x hx => (h x hx).dep
  omega⟩
theorem Sh.lst {m : Nat} {l : List PyData} (h : ∀ x ∈ l, Sh m x) : Sh (m + 1) (.list l) := ⟨by rw [PyData.canLay0]; exact canAll fun x hx => (h x hx).lay, by
  rw [PyData.depth]
  have := depAll fun x hx => (h x hx).dep
  omega⟩
theorem Sh.mono {m n : Nat} {d : PyData} (h : Sh m d) (q : m ≤ n) : Sh n d := ⟨h.lay, Nat.le_trans h.dep q⟩
theorem Sh.shaped {m : Nat} {d : PyData} (h : Sh m d) (q : m ≤ 64 := by decide) : SeqAt.shaped d = true := by
  unfold SeqAt.shaped
  rw [h.lay, decide_eq_true (Nat.le_trans h.dep q)]
  rfl
/-! ### == on data without bools is equality -/
mutual
def nb : PyData → Bool
  | .bool _ => false
  | .dict _ => false
  | .list xs => nbAll xs
  | .tuple xs => nbAll xs
  | .none => true
  | .int _ => true
  | .str _ => true
def nbAll : List PyData → Bool
  | [] => true
  | x :: xs => nb x && nbAll xs
end
mutual
theorem eqv_iff : ∀ (a b : PyData), nb a = true → nb b = true → (PyData.eqv a b = true ↔ a = b)
  | .none, b, _, hb => by cases b <;> simp [PyData.eqv]
  | .bool _, _, h, _ => by simp [nb] at h
  | .int i, b, _, hb => by
    cases b <;> first
      | (exfalso; simp [nb] at hb; done)
      | (simp [PyData.eqv]; done)
  | .str x, b, _, hb => by cases b <;> simp [PyData.eqv]
  | .list xs, b, ha, hb => by
    cases b with
    | list ys => rw [nb] at ha hb; rw [PyData.eqv, eqvAll_iff xs ys ha hb]; simp
    | _ => simp [PyData.eqv]
  | .tuple xs, b, ha, hb => by
    cases b with
    | tuple ys => rw [nb] at ha hb; rw [PyData.eqv, eqvAll_iff xs ys ha hb]; simp
    | _ => simp [PyData.eqv]
  | .dict _, _, h, _ => by simp [nb] at h
theorem eqvAll_iff : ∀ (as bs : List PyData), nbAll as = true → nbAll bs = true → (PyData.eqvAll as bs = true ↔ as = bs)
  | [], [], _, _ => by simp [PyData.eqvAll]
  | [], b :: bs, _, _ => by simp [PyData.eqvAll]
  | a :: as, [], _, _ => by simp [PyData.eqvAll]
  | a :: as, b :: bs, ha, hb => by
    rw [nbAll, Bool.and_eq_true] at ha hb
    rw [PyData.eqvAll, Bool.and_eq_true, eqv_iff a b ha.1 hb.1, eqvAll_iff as bs ha.2 hb.2]
    simp
end
theorem nbAll_of : ∀ {l : List PyData}, (∀ x ∈ l, nb x = true) → nbAll l = true
  | [], _ => rfl
  | x :: l, h => by rw [nbAll, h x List.mem_cons_self, nbAll_of fun y hy => h y (List.mem_cons_of_mem _ hy)]; rfl
theorem nb_lim (x : Option Str) : nb (limD x) = true := by cases x <;> rfl
theorem limD_inj {x y : Option Str} (h : limD x = limD y) : x = y := by
  cases x <;> cases y <;> first
    | rfl
    | (injection h with h; rw [h])
    | cases h
theorem map_inj {al : Type} {f : al → PyData} (hf : ∀ x y, f x = f y → x = y) : ∀ {as bs : List al}, as.map f = bs.map f → as = bs
  | [], [], _ => rfl
  | [], _ :: _, h => by simp at h
  | _ :: _, [], h => by simp at h
  | a :: as, b :: bs, h => by
    rw [List.map_cons, List.map_cons] at h
    injection h with h1 h2
    rw [hf _ _ h1, map_inj hf h2]
theorem Srt.nb_T : ∀ s : Srt, nb s.T = true
  | .c0 n => rfl
  | .c1 n a => by simp [Srt.T, nb, nbAll, Srt.nb_T a]
  | .c2 n a b => by simp [Srt.T, nb, nbAll, Srt.nb_T a, Srt.nb_T b]
theorem Srt.T_inj : ∀ {s t : Srt}, s.T = t.T → s = t
  | .c0 n, .c0 m, h => by simp [Srt.T] at h; rw [h]
  | .c0 n, .c1 m a, h => by simp [Srt.T] at h
  | .c0 n, .c2 m a b, h => by simp [Srt.T] at h
  | .c1 n a, .c0 m, h => by simp [Srt.T] at h
  | .c1 n a, .c1 m b, h => by
    simp [Srt.T] at h
    rw [h.1, Srt.T_inj h.2]
  | .c1 n a, .c2 m b c, h => by simp [Srt.T] at h
  | .c2 n a b, .c0 m, h => by simp [Srt.T] at h
  | .c2 n a b, .c1 m c, h => by simp [Srt.T] at h
  | .c2 n a b, .c2 m c d, h => by
    simp [Srt.T] at h
    rw [h.1, Srt.T_inj h.2.1, Srt.T_inj h.2.2]
theorem run_dropN {K : PySem.W.Frag} {F : Fx} {r : PEnv} {te : TE} {P : Hp → V → Prop} {E : Pst} (h : RunV K F te r P) (q : E.nx r) : RunS K F (tDrop te) r E := fun s B H ok D hn hr hb hc =>
  h s B H ok _ fun v B' H' g dv => hn s B' H' r q (ok.grow g) g.bb
end Ts
set_option Elab.async false
set_option linter.all false
set_option maxRecDepth 100000
set_option maxHeartbeats 2000000
namespace Ts
open PySem PySem.Spec PyProof.Rows L2
local macro_rules | `(tactic| walk_at "go") => `(tactic| simp only [cxK, cxK2, List.map_cons, List.map_nil, List.length_cons, List.length_nil, List.replicate, List.cons_append, List.nil_append, List.append_nil, Pk.ent, Nat.reduceAdd, Nat.reduceSub])
local macro_rules | `(tactic| walk_at "rfl") => `(tactic| with_unfolding_all exact rfl)
local macro_rules | `(tactic| walk_at "op") => `(tactic| with_reducible first
  | exact opd_plusI | exact opd_sub | exact opd_mod (by decide) | exact opb_eqI | exact opb_neI | exact opb_eqS | exact opb_neS | exact opb_eqB | exact opb_neB
  | exact opb_leI | exact opb_gtI | exact opb_geI | exact opb_ltI | exact opb_ltS | exact opb_isN | exact opb_notN | exact opb_inSgF | exact opb_inSLF | exact opb_inSTF | exact opb_inSLT | exact opb_inSTT | exact opb_inS2F | exact opb_inS2T
  | (apply opd_ixT; try walk_at "ix") | (apply opd_ixL; try walk_at "ix") | (apply opd_ixS; rotate_left; try walk_at "ix"; rotate_right) | apply opd_plusT | apply opd_mul | apply opd_div | apply opd_pow)
local macro_rules | `(tactic| walk_at "opD") => `(tactic| with_reducible first
  | walk_at "op" | (apply OpB.toD; walk_at "op"))
local macro_rules | `(tactic| walk_at "call") => `(tactic| with_reducible first
  | apply run_call1 | apply run_call2 | apply run_call3 | apply run_call4 | apply run_call5)
local macro_rules | `(tactic| walk_at "kit") => `(tactic| with_unfolding_all first | exact kit_ii | exact kit_ib | exact kit_ss | exact kit_st | exact kit_ts | exact kit_tt | exact kit_it | exact kit_ns)
local macro_rules | `(tactic| walk_at "ix") => `(tactic| first | exact atI_zero | exact atI_one | assumption | (with_unfolding_all exact rfl))
local macro_rules | `(tactic| walk_at "e") => `(tactic| with_reducible first
  | exact run_int | exact run_str | exact run_bl | exact run_non
  | (apply run_var; walk_at "rfl") | (apply run_wld; walk_at "rfl")
  | exact run_a0 | apply run_a
  | apply run_op | apply run_isi | apply run_chain | apply run_not | apply run_neg
  | apply run_tupF | apply run_tail | apply run_slT | apply run_slS | exact runo_none | apply runo_some
  | apply run_cb | exact call_lenT | exact call_lenL | apply call_lenS | exact call_max
  | (apply rp_w; walk_at "rfl") | apply rp_d
  | walk_at "call" | (apply RunV.toD; walk_at "call") | (apply RunV.toE; walk_at "call")
  | apply test_of | apply test_B | apply test_not
  | exact trivial
  | (apply run_dget1I; apply run_tab; walk_at "rfl") | (apply run_dgetI; apply run_tab; walk_at "rfl") | (apply run_dgetI; apply run_varD; walk_at "rfl")
  | walk_at "kit"
  | (show _ = some _; assumption)
  | walk_at "opD")
local macro_rules | `(tactic| walk_at "es") => `(tactic| repeat' (first | walk_at "e"))
local macro_rules | `(tactic| walk_at "k") => `(tactic| with_reducible first
  | apply test_orF | apply test_andT | apply test_notT | apply test_notF
  | apply run_andT | apply run_orF)
local macro_rules | `(tactic| walk_at "kl") => `(tactic| with_reducible first | (apply RunT.is; apply test_of) | (apply RunT.is; apply test_B) | apply RunE.is)
local macro_rules | `(tactic| walk_at "side") => `(tactic| first | assumption | (apply decide_eq_false; assumption) | (apply decide_eq_true; assumption) | (with_unfolding_all exact rfl) | (simp; done) | (apply congrArg PyData.bool; assumption) | (simp [*]; done))
local macro_rules | `(tactic| walk_at "ks") => `(tactic| ((repeat' (first | walk_at "k")); (all_goals (try walk_at "kl")); (repeat' (first | walk_at "e")); (all_goals (try walk_at "side"))))
local macro_rules | `(tactic| walk_at "le") => `(tactic| repeat' (first | exact Le.nil | apply Le.keep | apply Le.drop))

abbrev SMALLS : Str := "abcdefghijklmnopqrstuvwxyz"
def smallB (z : Str) (l h : Int) : Bool := decide (l ≤ z.length) && decide ((z.length : Int) ≤ h) && z.cps.toList.all fun c => decide (c ∈ SMALLS.cps.toList)
variable {P : Program} {w : World} {K : PySem.W.Frag} {mg : Str → Option Value} {base : Heap}
abbrev SpBetween (K : PySem.W.Frag) : Sp := sp3 K (.d PyData.int) (.d PyData.int) (.d PyData.int) (fun _ _ _ => True) (fun v l h B u => Dp K B u (.bool (decide (l ≤ v) && decide (v ≤ h))))
theorem ok_is_between (T : Tb K mg) : FnOk P w K mg base CX0 1 T.is_between.f T.is_between.fd ["value", "low", "high"] (SpBetween K) :=
  fn3 T.is_between.F sc_is_between fun cdv A outer s H E hr => ⟨_, (pss_one (ps_ret (pe_and (pe_callB (call_isiK2 K rfl) rfl T.g_isinstance (by decide +kernel) (pa_cons (vr 0 rfl (.inl rfl)) (pa_cons (pe_bltn (v := .ty "int") rfl T.g_int (by decide +kernel) rfl) pa_nil))) (pe_and (pe_not (pe_callB (call_isiK2 K rfl) rfl T.g_isinstance (by decide +kernel) (pa_cons (vr 0 rfl (.inl rfl)) (pa_cons (pe_bltn (v := .ty "bool") rfl T.g_bool (by decide +kernel) rfl) pa_nil)))) (pe_one (pe_chain op_leI op_leI (vr 1 rfl (.inl rfl)) (vr 0 rfl (.inl rfl)) (vr 2 rfl (.inl rfl)))))))), fun x y z _ F hF => by
    walk_at "go"
    refine run_ret (run_andT ?_ (run_andT ?_ ?_)) fun B v q => q
    · walk_at "es"
    · walk_at "ks"
    · walk_at "es"⟩
abbrev SpSmall (K : PySem.W.Frag) : Sp := sp3 K (.d PyData.str) (.d PyData.int) (.d PyData.int) (fun z _ _ => z.length ≤ 100) (fun z l h B u => Dp K B u (.bool (smallB z l h)))
theorem ok_are_small (T : Tb K mg) : FnOk P w K mg base CX0 1 T.are_small.f T.are_small.fd ["value", "low", "high"] (SpSmall K) :=
  fn3 T.are_small.F sc_are_small fun cdv A outer s H E hr => ⟨_, (pss_one (ps_ret (pe_and (pe_callB (call_isiK2 K rfl) rfl T.g_isinstance (by decide +kernel) (pa_cons (vr 0 rfl (.inl rfl)) (pa_cons (pe_bltn (v := .ty "str") rfl T.g_str (by decide +kernel) rfl) pa_nil))) (pe_and (pe_chain op_leI op_leI (vr 1 rfl (.inl rfl)) (pe_callB (call_lenK K rfl) rfl T.g_len (by decide +kernel) (pa_cons (vr 0 rfl (.inl rfl)) pa_nil)) (vr 2 rfl (.inl rfl))) (pe_one (pe_callB (cr_all rfl) rfl T.g_all (by decide +kernel) (pa_cons (pe_lc (own := [("sign", 3)]) rfl sc_are_small.nd (pi_any (vr 0 rfl (.inl rfl))) (blkOk_by (own := [("sign", 3)]) (N := ["value", "low", "high", "sign"]) (sc := defScope s_are_small) (by decide +kernel)) (fun _ _ _ _ _ => (pg_name (i := 3) sc_are_small.nd rfl (.inl rfl))) (fun _ _ _ _ _ => pts_nil) (fun _ _ _ _ _ => (pe_cmpR (op_inK K rfl (hu65 hr)) (vr 3 rfl (.inl rfl)) (pe_glob (v := .str _) rfl T.c_SMALL ⟨_, rfl⟩) (by rfl)))) pa_nil))))))), fun z l h hz F hF => by
    walk_at "go"
    have hz2 : z.length ≤ 1000000 := by omega
    refine run_ret (run_andT ?_ (run_and ?_ fun _ => run_all (l := z.cps.toList) (p := fun c => decide (c ∈ SMALLS.cps.toList)) (RunL.toE (run_lc0 (vs := [3]) _ (fun c => .str ⟨#[c]⟩) _ (runi_str ?_) ?_ fun i c hc => ⟨_, rung_name (by decide), ?_⟩)))) fun B v q => q
    · walk_at "es"
    · walk_at "es"
      exact hz2
    · walk_at "es"
    · rw [Array.length_toList]
      exact Nat.le_trans hz (by decide)
    · walk_at "es"⟩
def CONS : List Con := [⟨"List", 1⟩, ⟨"Num", 0⟩, ⟨"Pair", 2⟩, ⟨"Unit", 0⟩, ⟨"Box", 1⟩]
def conB (c : Con) : Bool := (match atI c.n.cps.toList 0 with
  | some a => decide (a ∈ (Str.ofString "ABCDEFGHIJKLMNOPQRSTUVWXYZ").cps.toList)
  | none => false) && smallB (cutS c.n (some 1) none) 0 5 && (decide (0 ≤ (c.k : Int)) && decide ((c.k : Int) ≤ 2)) && !decide (c.n = "") && decide (c.n.length ≤ 10) && decide ((cutS c.n (some 1) none).length ≤ 100)
theorem conB_all : ∀ c ∈ CONS, conB c = true := by decide +kernel
theorem con_facts {c : Con} (h : c ∈ CONS) : ∃ a, atI c.n.cps.toList 0 = some a ∧ decide (a ∈ (Str.ofString "ABCDEFGHIJKLMNOPQRSTUVWXYZ").cps.toList) = true ∧ smallB (cutS c.n (some 1) none) 0 5 = true ∧
    (decide (0 ≤ (c.k : Int)) && decide ((c.k : Int) ≤ 2)) = true ∧ decide (c.n = "") = false ∧ c.n.length ≤ 10 ∧ (cutS c.n (some 1) none).length ≤ 100 := by
  have := conB_all c h
  unfold conB at this
  cases ha : atI c.n.cps.toList 0 with
  | none => rw [ha] at this; simp at this
  | some a =>
    rw [ha] at this
    simp only [Bool.and_eq_true] at this
    obtain ⟨⟨⟨⟨⟨h1, h2⟩, h3⟩, h4⟩, h5⟩, h6⟩ := this
    exact ⟨a, rfl, h1, h2, by simpa using h3, by simpa using h4, by simpa using h5, by simpa using h6⟩
theorem ok_is_constructor (T : Tb K mg) : FnOk P w K mg base CX0 2 T.is_constructor.f T.is_constructor.fd ["value"] (sp1 K (.d Con.D) (fun c => c ∈ CONS) (fun _ B u => Dp K B u (.bool true))) :=
  have G_are_small := ok_are_small (P := P) (w := w) (base := base) T
  have G_is_between := ok_is_between (P := P) (w := w) (base := base) T
  fn1 T.is_constructor.F sc_is_constructor fun cdv A outer s H E hr => ⟨_, (pss_cons (ps_if (PW.pt (pw_or (pt_not (pt_val (pe_callB (call_isiK2 K rfl) rfl T.g_isinstance (by decide +kernel) (pa_cons (vr 0 rfl (.inl rfl)) (pa_cons (pe_bltn (v := .ty "tuple") rfl T.g_tuple (by decide +kernel) rfl) pa_nil))))) (pw_or (pt_cmpR (op_neK K rfl (hu64 hr)) (pe_callB (call_lenK K rfl) rfl T.g_len (by decide +kernel) (pa_cons (vr 0 rfl (.inl rfl)) pa_nil)) pe_int (nomark _)) (pw_or (pt_not (pt_val (pe_callB (call_isiK2 K rfl) rfl T.g_isinstance (by decide +kernel) (pa_cons (pe_ix (ix_K K rfl) (vr 0 rfl (.inl rfl)) pe_int (fun _ _ => rfl)) (pa_cons (pe_bltn (v := .ty "str") rfl T.g_str (by decide +kernel) rfl) pa_nil))))) (pw_or1 (pt_cmpR (op_eqK K rfl (hu64 hr)) (pe_ix (ix_K K rfl) (vr 0 rfl (.inl rfl)) pe_int (fun _ _ => rfl)) pe_str (nomark _))))))) (pss_one (ps_ret pe_bl)) pss_nil) (pss_one (ps_ret (pe_and (pe_cmpR (op_inK K rfl (hu65 hr)) (pe_ix (ix_K K rfl) (pe_ix (ix_K K rfl) (vr 0 rfl (.inl rfl)) pe_int (fun _ _ => rfl)) pe_int (fun _ _ => rfl)) (pe_glob (v := .str _) rfl T.c_GREAT ⟨_, rfl⟩) (by rfl)) (pe_and (pe_call G_are_small (hr.mono (by omega)) rfl T.are_small.m T.are_small.F.kp T.are_small.b .nil pass0 (pa_cons (pe_slice (sl_K K rfl) (pe_ix (ix_K K rfl) (vr 0 rfl (.inl rfl)) pe_int (fun _ _ => rfl)) (po_some pe_int) po_none) (pa_cons pe_int (pa_cons pe_int pa_nil)))) (pe_one (pe_call G_is_between (hr.mono (by omega)) rfl T.is_between.m T.is_between.F.kp T.is_between.b .nil pass0 (pa_cons (pe_ix (ix_K K rfl) (vr 0 rfl (.inl rfl)) pe_int (fun _ _ => rfl)) (pa_cons pe_int (pa_cons pe_int pa_nil)))))))))), fun c hc F hF => by
    walk_at "go"
    obtain ⟨a, h1, h2, h3, h4, h5, h6, h7⟩ := con_facts hc
    have h6' : c.n.length ≤ 1000000 := by omega
    apply run_skip
    · walk_at "ks"
    · refine run_ret (run_andT ?_ (run_andT ?_ ?_)) fun B v q => q
      · walk_at "ks"
      · walk_at "ks"
      · walk_at "ks"⟩
theorem ok_trait_names (T : Tb K mg) : FnOk P w K mg base CX0 1 T.trait_names.f T.trait_names.fd ["world"] (sp1 K (.w Wd.D) (fun w => w.ts.length ≤ 100) (fun w B u => IsLst K ((w.ts.map Trt.n).map .str) B u)) :=
  fn1 T.trait_names.F sc_trait_names fun cdv A outer s H E hr => ⟨_, (pss_one (ps_ret (pe_lc (own := [("name", 1), ("form", 2), ("below", 3)]) rfl sc_trait_names.nd (pi_any (pe_ix (ix_K K rfl) (vr 0 rfl (.inl rfl)) pe_int (fun _ _ => rfl))) (blkOk_by (own := [("name", 1), ("form", 2), ("below", 3)]) (N := ["world", "name", "form", "below"]) (sc := defScope s_trait_names) (by decide +kernel)) (fun _ _ _ _ _ => (pg_tupK K rfl (n := 3) rfl (pgs_cons (pg_name (i := 1) sc_trait_names.nd rfl (.inl rfl)) (pgs_cons (pg_name (i := 2) sc_trait_names.nd rfl (.inl rfl)) (pgs_cons (pg_name (i := 3) sc_trait_names.nd rfl (.inl rfl)) pgs_nil))))) (fun _ _ _ _ _ => pts_nil) (fun _ _ _ _ _ => (vr 1 rfl (.inl rfl)))))), fun w hw F hF => by
    walk_at "go"
    refine run_retV (RunL.toV (RunL.is (run_lc0 (vs := [1,2,3]) w.ts Trt.D (fun t => .str t.n) (runi_tup ?_) (by omega) fun i c hc => ⟨_, rung_tup (rungs_cons (rung_name (by decide)) (rungs_cons (rung_name (by decide)) (rungs_cons (rung_name (by decide)) rungs_nil))) rfl, ?_⟩) (by rw [List.map_map] <;> rfl))) fun B v q => q
    · walk_at "es"
    · walk_at "es"⟩
end Ts
set_option Elab.async false
set_option linter.all false
set_option maxRecDepth 100000
set_option maxHeartbeats 2000000
namespace Ts
open PySem PySem.Spec PyProof.Rows L2
local macro_rules | `(tactic| walk_at "go") => `(tactic| simp only [cxK, cxK2, List.map_cons, List.map_nil, List.length_cons, List.length_nil, List.replicate, List.cons_append, List.nil_append, List.append_nil, Pk.ent, Nat.reduceAdd, Nat.reduceSub])
local macro_rules | `(tactic| walk_at "rfl") => `(tactic| with_unfolding_all exact rfl)
local macro_rules | `(tactic| walk_at "op") => `(tactic| with_reducible first
  | exact opd_plusI | exact opd_sub | exact opd_mod (by decide) | exact opb_eqI | exact opb_neI | exact opb_eqS | exact opb_neS | exact opb_eqB | exact opb_neB
  | exact opb_leI | exact opb_gtI | exact opb_geI | exact opb_ltI | exact opb_ltS | exact opb_isN | exact opb_notN | exact opb_inSgF | exact opb_inSLF | exact opb_inSTF | exact opb_inSLT | exact opb_inSTT | exact opb_inS2F | exact opb_inS2T
  | (apply opd_ixT; try walk_at "ix") | (apply opd_ixL; try walk_at "ix") | (apply opd_ixS; rotate_left; try walk_at "ix"; rotate_right) | apply opd_plusT | apply opd_mul | apply opd_div | apply opd_pow)
local macro_rules | `(tactic| walk_at "opD") => `(tactic| with_reducible first
  | walk_at "op" | (apply OpB.toD; walk_at "op"))
local macro_rules | `(tactic| walk_at "call") => `(tactic| with_reducible first
  | apply run_call1 | apply run_call2 | apply run_call3 | apply run_call4 | apply run_call5)
local macro_rules | `(tactic| walk_at "kit") => `(tactic| with_unfolding_all first | exact kit_ii | exact kit_ib | exact kit_ss | exact kit_st | exact kit_ts | exact kit_tt | exact kit_it | exact kit_ns)
local macro_rules | `(tactic| walk_at "ix") => `(tactic| first | exact atI_zero | exact atI_one | assumption | (with_unfolding_all exact rfl))
local macro_rules | `(tactic| walk_at "e") => `(tactic| with_reducible first
  | exact run_int | exact run_str | exact run_bl | exact run_non
  | (apply run_var; walk_at "rfl") | (apply run_wld; walk_at "rfl")
  | exact run_a0 | apply run_a
  | apply run_op | apply run_isi | apply run_chain | apply run_not | apply run_neg
  | apply run_tupF | apply run_tail | apply run_slT | apply run_slS | exact runo_none | apply runo_some
  | apply run_cb | exact call_lenT | exact call_lenL | apply call_lenS | exact call_max
  | (apply rp_w; walk_at "rfl") | apply rp_d
  | walk_at "call" | (apply RunV.toD; walk_at "call") | (apply RunV.toE; walk_at "call")
  | apply test_of | apply test_B | apply test_not
  | exact trivial
  | (apply run_dget1I; apply run_tab; walk_at "rfl") | (apply run_dgetI; apply run_tab; walk_at "rfl") | (apply run_dgetI; apply run_varD; walk_at "rfl")
  | walk_at "kit"
  | (show _ = some _; assumption)
  | walk_at "opD")
local macro_rules | `(tactic| walk_at "es") => `(tactic| repeat' (first | walk_at "e"))
local macro_rules | `(tactic| walk_at "k") => `(tactic| with_reducible first
  | apply test_orF | apply test_andT | apply test_notT | apply test_notF
  | apply run_andT | apply run_orF)
local macro_rules | `(tactic| walk_at "kl") => `(tactic| with_reducible first | (apply RunT.is; apply test_of) | (apply RunT.is; apply test_B) | apply RunE.is)
local macro_rules | `(tactic| walk_at "side") => `(tactic| first | assumption | (apply decide_eq_false; assumption) | (apply decide_eq_true; assumption) | (with_unfolding_all exact rfl) | (simp; done) | (apply congrArg PyData.bool; assumption) | (simp [*]; done))
local macro_rules | `(tactic| walk_at "ks") => `(tactic| ((repeat' (first | walk_at "k")); (all_goals (try walk_at "kl")); (repeat' (first | walk_at "e")); (all_goals (try walk_at "side"))))
local macro_rules | `(tactic| walk_at "le") => `(tactic| repeat' (first | exact Le.nil | apply Le.keep | apply Le.drop))

variable {P : Program} {w : World} {K : PySem.W.Frag} {mg : Str → Option Value} {base : Heap}
/-- the form of the first trait of a name -/
def formOf (w : Wd) (t : Str) : Option Str := ((w.ts.filter fun x => decide (x.n = t)).map Trt.f).head?
abbrev SpForm (K : PySem.W.Frag) : Sp := sp2 K (.w Wd.D) (.d (fun (x : Str × Str) => .str x.1)) (fun w t => w.ts.length ≤ 100 ∧ formOf w t.1 = some t.2) (fun w t B u => Dp K B u (.str t.2))
theorem ok_form_of (T : Tb K mg) : FnOk P w K mg base CX0 1 T.form_of.f T.form_of.fd ["world", "trait"] (SpForm K) :=
  fn2 T.form_of.F sc_form_of fun cdv A outer s H E hr => ⟨_, (pss_one (ps_ret (pe_ix (ix_K K rfl) (pe_lc (own := [("name", 2), ("form", 3), ("below", 4)]) rfl sc_form_of.nd (pi_any (pe_ix (ix_K K rfl) (vr 0 rfl (.inl rfl)) pe_int (fun _ _ => rfl))) (blkOk_by (own := [("name", 2), ("form", 3), ("below", 4)]) (N := ["world", "trait", "name", "form", "below"]) (sc := defScope s_form_of) (by decide +kernel)) (fun _ _ _ _ _ => (pg_tupK K rfl (n := 3) rfl (pgs_cons (pg_name (i := 2) sc_form_of.nd rfl (.inl rfl)) (pgs_cons (pg_name (i := 3) sc_form_of.nd rfl (.inl rfl)) (pgs_cons (pg_name (i := 4) sc_form_of.nd rfl (.inl rfl)) pgs_nil))))) (fun _ _ _ _ _ => (pts_one (pt_cmpR (op_eqK K rfl (hu64 hr)) (vr 2 rfl (.inl rfl)) (vr 1 rfl (.inr (.inl rfl))) (nomark _)))) (fun _ _ _ _ _ => (vr 3 rfl (.inl rfl)))) pe_int (fun _ _ => rfl)))), fun w t ⟨hw, ht⟩ F hF => by
    walk_at "go"
    obtain ⟨tr, hx⟩ : ∃ tr, (w.ts.filter fun x => decide (x.n = t.1)).map (fun x => PyData.str x.f) = .str t.2 :: tr := by
      unfold formOf at ht
      cases hl : w.ts.filter fun x => decide (x.n = t.1) with
      | nil => rw [hl] at ht; cases ht
      | cons y ys =>
        rw [hl] at ht
        have e : y.f = t.2 := by simpa using ht
        exact ⟨_, by rw [List.map_cons, e]⟩
    refine run_ret (run_op (RunL.toE (run_lc (vs := [2,3,4]) w.ts Trt.D (fun x => decide (x.n = t.1)) (fun t => .str t.f) (runi_tup ?_) (by omega) fun i c hc => ⟨_, rung_tup (rungs_cons (rung_name (by decide)) (rungs_cons (rung_name (by decide)) (rungs_cons (rung_name (by decide)) rungs_nil))) rfl, ?_, fun _ => ?_⟩)) run_int (opd_ixL ?_)) fun B v q => q
    · walk_at "es"
    · walk_at "es"
    · walk_at "es"
    · rw [hx]
      exact atI_zero⟩
/-! ### sorts -/
inductive SrtOk (w : Wd) : Srt → Prop
  | c0 {n : Str} : ⟨n, 0⟩ ∈ w.cs → SrtOk w (.c0 n)
  | c1 {n : Str} {a : Srt} : ⟨n, 1⟩ ∈ w.cs → SrtOk w a → SrtOk w (.c1 n a)
  | c2 {n : Str} {a b : Srt} : ⟨n, 2⟩ ∈ w.cs → SrtOk w a → SrtOk w b → SrtOk w (.c2 n a b)
theorem SrtOk.root {w : Wd} {s : Srt} (h : SrtOk w s) : ⟨s.n, s.ps.length⟩ ∈ w.cs := by cases h <;> assumption
theorem SrtOk.part {w : Wd} {s p : Srt} (h : SrtOk w s) (hp : p ∈ s.ps) : SrtOk w p := by
  cases h with
  | c0 _ => cases hp
  | c1 _ h1 =>
    cases hp with
    | head => exact h1
    | tail _ z => cases z
  | c2 _ h1 h2 =>
    cases hp with
    | head => exact h1
    | tail _ z =>
      cases z with
      | head => exact h2
      | tail _ z => cases z
theorem Srt.ps_len (s : Srt) : s.ps.length ≤ 2 := by cases s <;> simp [Srt.ps]
def ConsOk (w : Wd) : Prop := ∀ c ∈ w.cs, valV (conTab w) (.inr c.n) = some (.int (c.k : Int))
abbrev SpSortW (K : PySem.W.Frag) (d : Nat) : Sp := sp3 K (.w Wd.D) (.d Srt.D) (.d PyData.str) (fun w s n => ConsOk w ∧ SrtOk w s ∧ s.dep < d) (fun w s n B u => Dp K B u (.bool true))
theorem ok_is_sort_with (T : Tb K mg) : ∀ d, FnOk P w K mg base CX0 d T.is_sort_with.f T.is_sort_with.fd ["world", "value", "names"] (SpSortW K d)
  | 0 => ⟨fun _ _ _ _ ⟨_, _, _, _, _, _, _, _, _, _, _, _, ⟨_, _, z⟩, _⟩ => absurd z (Nat.not_lt_zero _), fun _ _ _ _ _ _ _ _ _ _ _ _ _ ⟨_, _, _, _, _, _, _, _, _, _, _, _, ⟨_, _, z⟩, _⟩ => absurd z (Nat.not_lt_zero _)⟩
  | d + 1 =>
  have G_is_sort_with := ok_is_sort_with T d
  fn3 T.is_sort_with.F sc_is_sort_with fun cdv A outer s H E hr => ⟨_, (pss_cons (ps_if (pt_val (pe_callB (call_isiK2 K rfl) rfl T.g_isinstance (by decide +kernel) (pa_cons (vr 1 rfl (.inl rfl)) (pa_cons (pe_bltn (v := .ty "str") rfl T.g_str (by decide +kernel) rfl) pa_nil)))) (pss_one (ps_ret (pe_and (pe_cmpR (op_eqK K rfl (hu64 hr)) (pe_callB (call_lenK K rfl) rfl T.g_len (by decide +kernel) (pa_cons (vr 1 rfl (.inl rfl)) pa_nil)) pe_int (nomark _)) (pe_one (pe_cmpR (op_inK K rfl (hu65 hr)) (vr 1 rfl (.inl rfl)) (vr 2 rfl (.inr (.inl rfl))) (by rfl)))))) pss_nil) (pss_cons (ps_if (PW.pt (pw_or (pt_not (pt_val (pe_callB (call_isiK2 K rfl) rfl T.g_isinstance (by decide +kernel) (pa_cons (vr 1 rfl (.inl rfl)) (pa_cons (pe_bltn (v := .ty "tuple") rfl T.g_tuple (by decide +kernel) rfl) pa_nil))))) (pw_or (pt_cmpR (op_eqK K rfl (hu64 hr)) (pe_callB (call_lenK K rfl) rfl T.g_len (by decide +kernel) (pa_cons (vr 1 rfl (.inl rfl)) pa_nil)) pe_int (nomark _)) (pw_or1 (pt_not (pt_val (pe_callB (call_isiK2 K rfl) rfl T.g_isinstance (by decide +kernel) (pa_cons (pe_ix (ix_K K rfl) (vr 1 rfl (.inl rfl)) pe_int (fun _ _ => rfl)) (pa_cons (pe_bltn (v := .ty "str") rfl T.g_str (by decide +kernel) rfl) pa_nil))))))))) (pss_one (ps_ret pe_bl)) pss_nil) (pss_cons (ps_if (pt_cmpR (op_neK K rfl (hu64 hr)) (pe_dget1 (hu1 hr) (pe_callTy (call_dictT rfl) rfl T.g_dict (by decide +kernel) (pa_cons (pe_ix (ix_K K rfl) (vr 0 rfl (.inr (.inl rfl))) pe_int (fun _ _ => rfl)) pa_nil)) (pe_ix (ix_K K rfl) (vr 1 rfl (.inl rfl)) pe_int (fun _ _ => rfl)) ⟨rfl, rfl, rfl, rfl⟩) (pe_op op_subI (pe_callB (call_lenK K rfl) rfl T.g_len (by decide +kernel) (pa_cons (vr 1 rfl (.inl rfl)) pa_nil)) pe_int) (nomark _)) (pss_one (ps_ret pe_bl)) pss_nil) (pss_one (ps_ret (pe_callB (cr_all rfl) rfl T.g_all (by decide +kernel) (pa_cons (pe_lc (own := [("part", 3)]) rfl sc_is_sort_with.nd (pi_any (pe_slice (sl_K K rfl) (vr 1 rfl (.inl rfl)) (po_some pe_int) po_none)) (blkOk_by (own := [("part", 3)]) (N := ["world", "value", "names", "part"]) (sc := defScope s_is_sort_with) (by decide +kernel)) (fun _ _ _ _ _ => (pg_name (i := 3) sc_is_sort_with.nd rfl (.inl rfl))) (fun _ _ _ _ _ => pts_nil) (fun _ _ _ _ _ => (pe_call G_is_sort_with (hr.mono (by omega)) rfl T.is_sort_with.m T.is_sort_with.F.kp T.is_sort_with.b .nil pass0 (pa_cons (vr 0 rfl (.inr (.inl rfl))) (pa_cons (vr 3 rfl (.inl rfl)) (pa_cons (vr 2 rfl (.inr (.inl rfl))) pa_nil)))))) pa_nil))))))), fun w so n ⟨hw, hs, hd⟩ F hF => by
    walk_at "go"
    apply run_skip
    · walk_at "ks"
    apply run_skip
    · walk_at "ks"
    have h1 := hw _ hs.root
    apply run_skip
    · walk_at "ks"
    refine run_ret (run_all (l := so.ps) (p := fun _ => true) (RunL.toE (run_lc0 (vs := [3]) so.ps Srt.T _ (runi_tup ?_) ?_ fun i c hc => ⟨_, rung_name (by decide), ?_⟩)) |>.is (by simp)) fun B v q => q
    · walk_at "es"
    · have := so.ps_len
      omega
    · have hm := List.mem_of_getElem? hc
      rw [Srt.T_eq]
      walk_at "es"
      exact ⟨hw, hs.part hm, by have := Srt.dep_lt hm; omega⟩⟩
/-! ### sizes -/
theorem size_sum (s : Srt) : (s.size : Int) = 1 + (s.ps.map fun p => (p.size : Int)).sum := by
  cases s with
  | c0 n => rfl
  | c1 n a =>
    simp [Srt.size, Srt.ps]
  | c2 n a b =>
    simp [Srt.size, Srt.ps]
abbrev SpSize (K : PySem.W.Frag) (d : Nat) : Sp := sp1 K (.d Srt.D) (fun s => s.dep < d) (fun s B u => Dp K B u (.int (s.size : Int)))
theorem ok_size_in (T : Tb K mg) : ∀ d, FnOk P w K mg base CX0 d T.size_in.f T.size_in.fd ["sort"] (SpSize K d)
  | 0 => ⟨fun _ _ _ _ ⟨_, _, _, _, _, _, z, _⟩ => absurd z (Nat.not_lt_zero _), fun _ _ _ _ _ _ _ _ _ _ _ _ _ ⟨_, _, _, _, _, _, z, _⟩ => absurd z (Nat.not_lt_zero _)⟩
  | d + 1 =>
  have G_size_in := ok_size_in T d
  fn1 T.size_in.F sc_size_in fun cdv A outer s H E hr => ⟨_, (pss_one (ps_ret (pe_ifExp (pt_val (pe_callB (call_isiK2 K rfl) rfl T.g_isinstance (by decide +kernel) (pa_cons (vr 0 rfl (.inl rfl)) (pa_cons (pe_bltn (v := .ty "str") rfl T.g_str (by decide +kernel) rfl) pa_nil)))) pe_int (pe_op (op_plusK K rfl) pe_int (pe_callB (cr_sum rfl) rfl T.g_sum (by decide +kernel) (pa_cons (pe_lc (own := [("part", 1)]) rfl sc_size_in.nd (pi_any (pe_slice (sl_K K rfl) (vr 0 rfl (.inl rfl)) (po_some pe_int) po_none)) (blkOk_by (own := [("part", 1)]) (N := ["sort", "part"]) (sc := defScope s_size_in) (by decide +kernel)) (fun _ _ _ _ _ => (pg_name (i := 1) sc_size_in.nd rfl (.inl rfl))) (fun _ _ _ _ _ => pts_nil) (fun _ _ _ _ _ => (pe_call G_size_in (hr.mono (by omega)) rfl T.size_in.m T.size_in.F.kp T.size_in.b .nil pass0 (pa_cons (vr 1 rfl (.inl rfl)) pa_nil)))) pa_nil)))))), fun so hd F hF => by
    walk_at "go"
    refine run_ret (run_ifF ?_ ((run_op run_int (run_sum (l := so.ps) (p := fun p => (p.size : Int)) (RunL.toE (run_lc0 (vs := [1]) so.ps Srt.T _ (runi_tup ?_) ?_ fun i c hc => ⟨_, rung_name (by decide), ?_⟩))) opd_plusI).is (by rw [size_sum]))) fun B v q => q
    · walk_at "ks"
    · walk_at "es"
    · have := so.ps_len
      omega
    · have hm := List.mem_of_getElem? hc
      rw [Srt.T_eq]
      walk_at "es"
      have := Srt.dep_lt hm
      omega⟩
abbrev SpCkSort (K : PySem.W.Frag) : Sp := sp3 K (.w Wd.D) (.d Srt.D) (.d PyData.str) (fun w s n => ConsOk w ∧ SrtOk w s ∧ s.dep < 8 ∧ s.size ≤ 12) (fun w s n B u => u = .non)
theorem ok_check_sort (T : Tb K mg) : FnOk P w K mg base CX0 9 T.check_sort.f T.check_sort.fd ["world", "sort", "names"] (SpCkSort K) :=
  have G_is_sort_with := ok_is_sort_with (P := P) (w := w) (base := base) T 8
  have G_size_in := ok_size_in (P := P) (w := w) (base := base) T 8
  fn3 T.check_sort.F sc_check_sort fun cdv A outer s H E hr => ⟨_, (pss_one (ps_if (PW.pt (pw_or (pt_not (pt_val (pe_call G_is_sort_with (hr.mono (by omega)) rfl T.is_sort_with.m T.is_sort_with.F.kp T.is_sort_with.b .nil pass0 (pa_cons (vr 0 rfl (.inl rfl)) (pa_cons (vr 1 rfl (.inl rfl)) (pa_cons (vr 2 rfl (.inl rfl)) pa_nil)))))) (pw_or1 (pt_cmpR op_gtI (pe_call G_size_in (hr.mono (by omega)) rfl T.size_in.m T.size_in.F.kp T.size_in.b .nil pass0 (pa_cons (vr 1 rfl (.inl rfl)) pa_nil)) pe_int (nomark _))))) pss_never pss_nil)), fun w so n ⟨hw, hs, hd, hz⟩ F hF => by
    walk_at "go"
    refine run_iffF ?_ (run_next fun B => rfl)
    walk_at "ks"
    all_goals first | exact ⟨hw, hs, hd⟩ | (simp; omega)⟩
abbrev SpCkTrait (K : PySem.W.Frag) : Sp := sp2 K (.w Wd.D) (.d PyData.str) (fun w t => w.ts.length ≤ 100 ∧ t ∈ w.ts.map Trt.n) (fun w t B u => u = .non)
theorem ok_check_trait (T : Tb K mg) : FnOk P w K mg base CX0 2 T.check_trait.f T.check_trait.fd ["world", "trait"] (SpCkTrait K) :=
  have G_trait_names := ok_trait_names (P := P) (w := w) (base := base) T
  fn2 T.check_trait.F sc_check_trait fun cdv A outer s H E hr => ⟨_, (pss_one (ps_if (PW.pt (pw_or (pt_not (pt_val (pe_callB (call_isiK2 K rfl) rfl T.g_isinstance (by decide +kernel) (pa_cons (vr 1 rfl (.inl rfl)) (pa_cons (pe_bltn (v := .ty "str") rfl T.g_str (by decide +kernel) rfl) pa_nil))))) (pw_or1 (pt_cmpR (op_ninK K rfl (hu65 hr)) (vr 1 rfl (.inl rfl)) (pe_call G_trait_names (hr.mono (by omega)) rfl T.trait_names.m T.trait_names.F.kp T.trait_names.b .nil pass0 (pa_cons (vr 0 rfl (.inl rfl)) pa_nil)) (by rfl))))) pss_never pss_nil)), fun w t ⟨hw, ht⟩ F hF => by
    walk_at "go"
    refine run_iffF ?_ (run_next fun B => rfl)
    walk_at "ks"⟩
end Ts
set_option Elab.async false
set_option linter.all false
set_option maxRecDepth 100000
set_option maxHeartbeats 2000000
namespace Ts
open PySem PySem.Spec PyProof.Rows L2
local macro_rules | `(tactic| walk_at "go") => `(tactic| simp only [cxK, cxK2, List.map_cons, List.map_nil, List.length_cons, List.length_nil, List.replicate, List.cons_append, List.nil_append, List.append_nil, Pk.ent, Nat.reduceAdd, Nat.reduceSub])
local macro_rules | `(tactic| walk_at "rfl") => `(tactic| with_unfolding_all exact rfl)
local macro_rules | `(tactic| walk_at "op") => `(tactic| with_reducible first
  | exact opd_plusI | exact opd_sub | exact opd_mod (by decide) | exact opb_eqI | exact opb_neI | exact opb_eqS | exact opb_neS | exact opb_eqB | exact opb_neB
  | exact opb_leI | exact opb_gtI | exact opb_geI | exact opb_ltI | exact opb_ltS | exact opb_isN | exact opb_notN | exact opb_inSgF | exact opb_inSLF | exact opb_inSTF | exact opb_inSLT | exact opb_inSTT | exact opb_inS2F | exact opb_inS2T
  | (apply opd_ixT; try walk_at "ix") | (apply opd_ixL; try walk_at "ix") | (apply opd_ixS; rotate_left; try walk_at "ix"; rotate_right) | apply opd_plusT | apply opd_mul | apply opd_div | apply opd_pow)
local macro_rules | `(tactic| walk_at "opD") => `(tactic| with_reducible first
  | walk_at "op" | (apply OpB.toD; walk_at "op"))
local macro_rules | `(tactic| walk_at "call") => `(tactic| with_reducible first
  | apply run_call1 | apply run_call2 | apply run_call3 | apply run_call4 | apply run_call5)
local macro_rules | `(tactic| walk_at "kit") => `(tactic| with_unfolding_all first | exact kit_ii | exact kit_ib | exact kit_ss | exact kit_st | exact kit_ts | exact kit_tt | exact kit_it | exact kit_ns)
local macro_rules | `(tactic| walk_at "ix") => `(tactic| first | exact atI_zero | exact atI_one | assumption | (with_unfolding_all exact rfl))
local macro_rules | `(tactic| walk_at "e") => `(tactic| with_reducible first
  | exact run_int | exact run_str | exact run_bl | exact run_non
  | (apply run_var; walk_at "rfl") | (apply run_wld; walk_at "rfl")
  | exact run_a0 | apply run_a
  | apply run_op | apply run_isi | apply run_chain | apply run_not | apply run_neg
  | apply run_tupF | apply run_tail | apply run_slT | apply run_slS | exact runo_none | apply runo_some
  | apply run_cb | exact call_lenT | exact call_lenL | apply call_lenS | exact call_max
  | (apply rp_w; walk_at "rfl") | apply rp_d
  | walk_at "call" | (apply RunV.toD; walk_at "call") | (apply RunV.toE; walk_at "call")
  | apply test_of | apply test_B | apply test_not
  | exact trivial
  | (apply run_dget1I; apply run_tab; walk_at "rfl") | (apply run_dgetI; apply run_tab; walk_at "rfl") | (apply run_dgetI; apply run_varD; walk_at "rfl")
  | walk_at "kit"
  | (show _ = some _; assumption)
  | walk_at "opD")
local macro_rules | `(tactic| walk_at "es") => `(tactic| repeat' (first | walk_at "e"))
local macro_rules | `(tactic| walk_at "k") => `(tactic| with_reducible first
  | apply test_orF | apply test_andT | apply test_notT | apply test_notF
  | apply run_andT | apply run_orF)
local macro_rules | `(tactic| walk_at "kl") => `(tactic| with_reducible first | (apply RunT.is; apply test_of) | (apply RunT.is; apply test_B) | apply RunE.is)
local macro_rules | `(tactic| walk_at "side") => `(tactic| first | assumption | (apply decide_eq_false; assumption) | (apply decide_eq_true; assumption) | (with_unfolding_all exact rfl) | (simp; done) | (apply congrArg PyData.bool; assumption) | (simp [*]; done))
local macro_rules | `(tactic| walk_at "ks") => `(tactic| ((repeat' (first | walk_at "k")); (all_goals (try walk_at "kl")); (repeat' (first | walk_at "e")); (all_goals (try walk_at "side"))))
local macro_rules | `(tactic| walk_at "le") => `(tactic| repeat' (first | exact Le.nil | apply Le.keep | apply Le.drop))

variable {P : Program} {w : World} {K : PySem.W.Frag} {mg : Str → Option Value} {base : Heap}
structure TrsOk (ts : List Trt) : Prop where
  n1 : 1 ≤ ts.length
  n4 : ts.length ≤ 4
  nm : ∀ t ∈ ts, smallB t.n 1 6 = true ∧ t.n.length ≤ 100
  fresh : ∀ (i : Nat) t, ts[i]? = some t → t.n ∉ (ts.take i).map Trt.n
  form : ∀ t ∈ ts, t.f ∈ [("tell" : Str), ("make" : Str)]
  bl : ∀ (i : Nat) t, ts[i]? = some t → t.b.length ≤ 100 ∧ ∀ x ∈ t.b, x ∈ (ts.take i).map Trt.n
  asc : ∀ t ∈ ts, ∀ (k : Nat) x y, t.b[k]? = some x → t.b[k + 1]? = some y → x.cps.toList < y.cps.toList
  lay : ∀ t ∈ ts, NmOk t.n ∧ NmOk t.f
abbrev trsD (ts : List Trt) : PyData := .tuple (ts.map Trt.D)
theorem ok_are_traits (T : Tb K mg) : FnOk P w K mg base CX0 2 T.are_traits.f T.are_traits.fd ["value"] (sp1 K (.d trsD) TrsOk (fun _ B u => Dp K B u (.bool true))) :=
  have G_are_small := ok_are_small (P := P) (w := w) (base := base) T
  fn1 T.are_traits.F sc_are_traits fun cdv A outer s H E hr => ⟨_, (pss_cons (ps_if (PW.pt (pw_or (pt_not (pt_val (pe_callB (call_isiK2 K rfl) rfl T.g_isinstance (by decide +kernel) (pa_cons (vr 0 rfl (.inl rfl)) (pa_cons (pe_bltn (v := .ty "tuple") rfl T.g_tuple (by decide +kernel) rfl) pa_nil))))) (pw_or1 (pt_not (pt_chain op_leI op_leI pe_int (pe_callB (call_lenK K rfl) rfl T.g_len (by decide +kernel) (pa_cons (vr 0 rfl (.inl rfl)) pa_nil)) pe_int))))) (pss_one (ps_ret pe_bl)) pss_nil) (pss_cons (ps_set (i := 1) sc_are_traits.nd rfl (.inr rfl) (pe_lst pa_nil)) (pss_cons (ps_for PassesOwn.never rfl (pi_any (vr 0 rfl (.inl rfl))) (pg_name (i := 2) sc_are_traits.nd rfl (.inl rfl)) (pss_cons (ps_if (PW.pt (pw_or (pt_not (pt_val (pe_callB (call_isiK2 K rfl) rfl T.g_isinstance (by decide +kernel) (pa_cons (vr 2 rfl (.inl rfl)) (pa_cons (pe_bltn (v := .ty "tuple") rfl T.g_tuple (by decide +kernel) rfl) pa_nil))))) (pw_or (pt_cmpR (op_neK K rfl (hu64 hr)) (pe_callB (call_lenK K rfl) rfl T.g_len (by decide +kernel) (pa_cons (vr 2 rfl (.inl rfl)) pa_nil)) pe_int (nomark _)) (pw_or (pt_not (pt_val (pe_call G_are_small (hr.mono (by omega)) rfl T.are_small.m T.are_small.F.kp T.are_small.b .nil pass0 (pa_cons (pe_ix (ix_K K rfl) (vr 2 rfl (.inl rfl)) pe_int (fun _ _ => rfl)) (pa_cons pe_int (pa_cons pe_int pa_nil)))))) (pw_or1 (pt_cmpR (op_inK K rfl (hu65 hr)) (pe_ix (ix_K K rfl) (vr 2 rfl (.inl rfl)) pe_int (fun _ _ => rfl)) (vr 1 rfl (.inr (.inl rfl))) (by rfl))))))) (pss_one (ps_ret pe_bl)) pss_nil) (pss_cons (ps_asg (vr 2 rfl (.inl rfl)) (pg_tupK K rfl (n := 3) rfl (pgs_cons (pg_name (i := 3) sc_are_traits.nd rfl (.inl rfl)) (pgs_cons (pg_name (i := 4) sc_are_traits.nd rfl (.inl rfl)) (pgs_cons (pg_name (i := 5) sc_are_traits.nd rfl (.inr rfl)) pgs_nil))))) (pss_cons (ps_if (PW.pt (pw_or (pt_not (pt_val (pe_callB (call_isiK2 K rfl) rfl T.g_isinstance (by decide +kernel) (pa_cons (vr 4 rfl (.inl rfl)) (pa_cons (pe_bltn (v := .ty "str") rfl T.g_str (by decide +kernel) rfl) pa_nil))))) (pw_or (pt_cmpR (op_ninK K rfl (hu65 hr)) (vr 4 rfl (.inl rfl)) (pe_tupF (pa_cons pe_str (pa_cons pe_str pa_nil))) (by rfl)) (pw_or1 (pt_not (pt_val (pe_callB (call_isiK2 K rfl) rfl T.g_isinstance (by decide +kernel) (pa_cons (vr 5 rfl (.inr (.inl rfl))) (pa_cons (pe_bltn (v := .ty "tuple") rfl T.g_tuple (by decide +kernel) rfl) pa_nil))))))))) (pss_one (ps_ret pe_bl)) pss_nil) (pss_cons (ps_if (pt_not (pt_val (pe_callB (cr_all rfl) rfl T.g_all (by decide +kernel) (pa_cons (pe_lc (own := [("one", 6)]) rfl sc_are_traits.nd (pi_any (vr 5 rfl (.inr (.inl rfl)))) (blkOk_by (own := [("one", 6)]) (N := ["value", "earlier", "trait", "name", "form", "below", "one", "k"]) (sc := defScope s_are_traits) (by decide +kernel)) (fun _ _ _ _ _ => (pg_name (i := 6) sc_are_traits.nd rfl (.inl rfl))) (fun _ _ _ _ _ => pts_nil) (fun _ _ _ _ _ => (pe_and (pe_callB (call_isiK2 K rfl) rfl T.g_isinstance (by decide +kernel) (pa_cons (vr 6 rfl (.inl rfl)) (pa_cons (pe_bltn (v := .ty "str") rfl T.g_str (by decide +kernel) rfl) pa_nil))) (pe_one (pe_cmpR (op_inK K rfl (hu65 hr)) (vr 6 rfl (.inl rfl)) (vr 1 rfl (.inr (.inl rfl))) (by rfl)))))) pa_nil)))) (pss_one (ps_ret pe_bl)) pss_nil) (pss_cons (ps_if (pt_not (pt_val (pe_callB (cr_all rfl) rfl T.g_all (by decide +kernel) (pa_cons (pe_lc (own := [("k", 7)]) rfl sc_are_traits.nd (pi_range1 rfl T.g_range (pa_cons (pe_op op_subI (pe_callB (call_lenK K rfl) rfl T.g_len (by decide +kernel) (pa_cons (vr 5 rfl (.inr (.inl rfl))) pa_nil)) pe_int) pa_nil)) (blkOk_by (own := [("k", 7)]) (N := ["value", "earlier", "trait", "name", "form", "below", "one", "k"]) (sc := defScope s_are_traits) (by decide +kernel)) (fun _ _ _ _ _ => (pg_name (i := 7) sc_are_traits.nd rfl (.inl rfl))) (fun _ _ _ _ _ => pts_nil) (fun _ _ _ _ _ => (pe_cmpR (op_ltK K rfl (hu64 hr)) (pe_ix (ix_K K rfl) (vr 5 rfl (.inr (.inl rfl))) (vr 7 rfl (.inl rfl)) (fun _ _ => rfl)) (pe_ix (ix_K K rfl) (vr 5 rfl (.inr (.inl rfl))) (pe_op (op_plusK K rfl) (vr 7 rfl (.inl rfl)) pe_int) (fun _ _ => rfl)) (nomark _)))) pa_nil)))) (pss_one (ps_ret pe_bl)) pss_nil) (pss_one (ps_expr (pe_bm PySem.F.plainAttrs_list PySem.F.slot_list_append PySem.F.type_list_append mt_append (vr 1 rfl (.inr (.inl rfl))) (pa_cons (vr 3 rfl (.inl rfl)) pa_nil)))))))))) (pss_one (ps_ret pe_bl))))), fun ts ok F hF => by
    walk_at "go"
    have hn := ok.n1
    have hn4 := ok.n4
    apply run_skip
    · walk_at "ks"
      simp
      omega
    refine run_asgLq (run_lst run_a0 (by simp)) ?_
    refine run_seq (run_forM (vs := [2]) ts Trt.D (fun i => [some (.d (trsD ts)), some (.own (((ts.take i).map Trt.n).map .str)), none, none, none, none, none, none]) (runi_tup ?_) ?_ (fun i t hi => ⟨_, rung_name (by decide), ?_⟩) ?_)
    · walk_at "es"
    · walk_at "le"
    · have hm := List.mem_of_getElem? hi
      obtain ⟨q1, q2⟩ := ok.nm t hm
      have q3 := ok.fresh i t hi
      have q4 := ok.form t hm
      obtain ⟨q5, q6⟩ := ok.bl i t hi
      have q7 := ok.asc t hm
      apply run_skip
      · refine test_borrow 1 rfl ?_
        walk_at "ks"
      refine run_seq (run_asgG (vs := [3,4,5]) (d := t.D) ?_ rung3 ?_)
      · walk_at "es"
      apply run_skip
      · walk_at "ks"
      apply run_skip
      · refine test_borrow 1 rfl ?_
        apply test_notT
        refine (test_B (run_all (l := t.b) (p := fun x => decide (x ∈ (ts.take i).map Trt.n)) (RunL.toE (run_lc0 (vs := [6]) t.b PyData.str _ (runi_tup ?_) (by omega) fun k c hc => ⟨_, rung_name (by decide), ?_⟩)))).is (by simpa using q6)
        · walk_at "es"
        · refine run_andT ?_ ?_
          · walk_at "es"
          · walk_at "es"
      apply run_skip
      · apply test_notT
        refine (test_B (run_all (l := List.range (((t.b.map PyData.str).length : Int) - 1).toNat) (p := fun _ => true) (RunL.toE (run_lc0 (vs := [7]) _ (fun (i : Nat) => PyData.int (i : Int)) _ (runi_rng (n := ((t.b.map PyData.str).length : Int) - 1) ?_ (by omega) (by simp; omega)) (by simp; omega) fun k c hc => ⟨_, rung_name (by decide), ?_⟩)))).is (by simp)
        · walk_at "es"
        · have hk : c = k ∧ (k : Int) < (t.b.length : Int) - 1 := by
            obtain ⟨h1, h2⟩ := List.getElem?_eq_some_iff.mp hc
            rw [List.length_range, List.length_map] at h1
            rw [List.getElem_range] at h2
            exact ⟨h2.symm, by omega⟩
          obtain ⟨rfl, hk⟩ := hk
          obtain ⟨x, hx⟩ : ∃ x, t.b[c]? = some x := ⟨_, List.getElem?_eq_getElem (by omega)⟩
          obtain ⟨y, hy⟩ : ∃ y, t.b[c + 1]? = some y := ⟨_, List.getElem?_eq_getElem (by omega)⟩
          have hlt := q7 c x y hx hy
          have hx' : atI (t.b.map PyData.str) (c : Int) = some (.str x) := atI_nat (by rw [List.getElem?_map, hx]; rfl)
          have hy' : atI (t.b.map PyData.str) ((c : Int) + 1) = some (.str y) := atI_nat (i := c + 1) (by rw [List.getElem?_map, hy]; rfl)
          walk_at "ks"
      have hl : ((ts.take (i + 1)).map Trt.n).map PyData.str = ((ts.take i).map Trt.n).map PyData.str ++ [.str t.n] := by
        rw [List.take_add_one, hi]
        simp
      refine run_append (ds := ((ts.take i).map Trt.n).map PyData.str) (d := .str t.n) rfl ?_ ?_ ?_
      · simp
        omega
      · walk_at "es"
      · simp only [hl]
        walk_at "le"
    · refine run_ret ?_ fun B v q => q
      walk_at "es"⟩

structure WdOk (w : Wd) : Prop where
  c1 : 1 ≤ w.cs.length
  c4 : w.cs.length ≤ 4
  con : ∀ c ∈ w.cs, c ∈ CONS
  asc : ∀ (k : Nat) x y, w.cs[k]? = some x → w.cs[k + 1]? = some y → x.n.cps.toList < y.n.cps.toList
  zero : ∃ c ∈ w.cs, c.k = 0
  trs : TrsOk w.ts
  tab : ConsOk w
theorem ok_is_world (T : Tb K mg) : FnOk P w K mg base CX0 3 T.is_world.f T.is_world.fd ["value"] (sp1 K (.w Wd.D) WdOk (fun _ B u => Dp K B u (.bool true))) :=
  have G_is_constructor := ok_is_constructor (P := P) (w := w) (base := base) T
  have G_are_traits := ok_are_traits (P := P) (w := w) (base := base) T
  fn1 T.is_world.F sc_is_world fun cdv A outer s H E hr => ⟨_, (pss_cons (ps_if (PW.pt (pw_or (pt_not (pt_val (pe_callB (call_isiK2 K rfl) rfl T.g_isinstance (by decide +kernel) (pa_cons (vr 0 rfl (.inl rfl)) (pa_cons (pe_bltn (v := .ty "tuple") rfl T.g_tuple (by decide +kernel) rfl) pa_nil))))) (pw_or (pt_cmpR (op_neK K rfl (hu64 hr)) (pe_callB (call_lenK K rfl) rfl T.g_len (by decide +kernel) (pa_cons (vr 0 rfl (.inl rfl)) pa_nil)) pe_int (nomark _)) (pw_or1 (pt_not (pt_val (pe_callB (call_isiK2 K rfl) rfl T.g_isinstance (by decide +kernel) (pa_cons (pe_ix (ix_K K rfl) (vr 0 rfl (.inl rfl)) pe_int (fun _ _ => rfl)) (pa_cons (pe_bltn (v := .ty "tuple") rfl T.g_tuple (by decide +kernel) rfl) pa_nil))))))))) (pss_one (ps_ret pe_bl)) pss_nil) (pss_cons (ps_set (i := 1) sc_is_world.nd rfl (.inr rfl) (pe_ix (ix_K K rfl) (vr 0 rfl (.inl rfl)) pe_int (fun _ _ => rfl))) (pss_cons (ps_if (PW.pt (pw_or (pt_not (pt_chain op_leI op_leI pe_int (pe_callB (call_lenK K rfl) rfl T.g_len (by decide +kernel) (pa_cons (vr 1 rfl (.inr (.inl rfl))) pa_nil)) pe_int)) (pw_or1 (pt_not (pt_val (pe_callB (cr_all rfl) rfl T.g_all (by decide +kernel) (pa_cons (pe_lc (own := [("one", 2)]) rfl sc_is_world.nd (pi_any (vr 1 rfl (.inr (.inl rfl)))) (blkOk_by (own := [("one", 2)]) (N := ["value", "some", "one", "k", "name", "parts"]) (sc := defScope s_is_world) (by decide +kernel)) (fun _ _ _ _ _ => (pg_name (i := 2) sc_is_world.nd rfl (.inl rfl))) (fun _ _ _ _ _ => pts_nil) (fun _ _ _ _ _ => (pe_call G_is_constructor (hr.mono (by omega)) rfl T.is_constructor.m T.is_constructor.F.kp T.is_constructor.b .nil pass0 (pa_cons (vr 2 rfl (.inl rfl)) pa_nil)))) pa_nil))))))) (pss_one (ps_ret pe_bl)) pss_nil) (pss_cons (ps_if (pt_not (pt_val (pe_callB (cr_all rfl) rfl T.g_all (by decide +kernel) (pa_cons (pe_lc (own := [("k", 3)]) rfl sc_is_world.nd (pi_range1 rfl T.g_range (pa_cons (pe_op op_subI (pe_callB (call_lenK K rfl) rfl T.g_len (by decide +kernel) (pa_cons (vr 1 rfl (.inr (.inl rfl))) pa_nil)) pe_int) pa_nil)) (blkOk_by (own := [("k", 3)]) (N := ["value", "some", "one", "k", "name", "parts"]) (sc := defScope s_is_world) (by decide +kernel)) (fun _ _ _ _ _ => (pg_name (i := 3) sc_is_world.nd rfl (.inl rfl))) (fun _ _ _ _ _ => pts_nil) (fun _ _ _ _ _ => (pe_cmpR (op_ltK K rfl (hu64 hr)) (pe_ix (ix_K K rfl) (pe_ix (ix_K K rfl) (vr 1 rfl (.inr (.inl rfl))) (vr 3 rfl (.inl rfl)) (fun _ _ => rfl)) pe_int (fun _ _ => rfl)) (pe_ix (ix_K K rfl) (pe_ix (ix_K K rfl) (vr 1 rfl (.inr (.inl rfl))) (pe_op (op_plusK K rfl) (vr 3 rfl (.inl rfl)) pe_int) (fun _ _ => rfl)) pe_int (fun _ _ => rfl)) (nomark _)))) pa_nil)))) (pss_one (ps_ret pe_bl)) pss_nil) (pss_one (ps_ret (pe_and (pe_callB (cr_any rfl) rfl T.g_any (by decide +kernel) (pa_cons (pe_lc (own := [("name", 4), ("parts", 5)]) rfl sc_is_world.nd (pi_any (vr 1 rfl (.inr (.inl rfl)))) (blkOk_by (own := [("name", 4), ("parts", 5)]) (N := ["value", "some", "one", "k", "name", "parts"]) (sc := defScope s_is_world) (by decide +kernel)) (fun _ _ _ _ _ => (pg_tupK K rfl (n := 2) rfl (pgs_cons (pg_name (i := 4) sc_is_world.nd rfl (.inl rfl)) (pgs_cons (pg_name (i := 5) sc_is_world.nd rfl (.inl rfl)) pgs_nil)))) (fun _ _ _ _ _ => pts_nil) (fun _ _ _ _ _ => (pe_cmpR (op_eqK K rfl (hu64 hr)) (vr 5 rfl (.inl rfl)) pe_int (nomark _)))) pa_nil)) (pe_one (pe_call G_are_traits (hr.mono (by omega)) rfl T.are_traits.m T.are_traits.F.kp T.are_traits.b .nil pass0 (pa_cons (pe_ix (ix_K K rfl) (vr 0 rfl (.inl rfl)) pe_int (fun _ _ => rfl)) pa_nil)))))))))), fun w ok F hF => by
    walk_at "go"
    have h1 := ok.c1
    have h4 := ok.c4
    apply run_skip
    · walk_at "ks"
    refine run_asgq (d := .tuple (w.cs.map Con.D)) ?_ ?_
    · walk_at "es"
    apply run_skip
    · refine test_orF ?_ (test_notT ((test_B (run_all (l := w.cs) (p := fun _ => true) (RunL.toE (run_lc0 (vs := [2]) w.cs Con.D _ (runi_tup ?_) (by omega) fun k c hc => ⟨_, rung_name (by decide), ?_⟩)))).is (by simp)))
      · walk_at "ks"
        simp
        omega
      · walk_at "es"
      · have hm := ok.con c (List.mem_of_getElem? hc)
        walk_at "es"
        exact hm
    apply run_skip
    · refine test_notT ((test_B (run_all (l := List.range (((w.cs.map Con.D).length : Int) - 1).toNat) (p := fun _ => true) (RunL.toE (run_lc0 (vs := [3]) _ (fun (i : Nat) => PyData.int (i : Int)) _ (runi_rng (n := ((w.cs.map Con.D).length : Int) - 1) ?_ (by omega) (by simp; omega)) (by simp; omega) fun k c hc => ⟨_, rung_name (by decide), ?_⟩)))).is (by simp))
      · walk_at "es"
      · have hk : c = k ∧ (k : Int) < (w.cs.length : Int) - 1 := by
          obtain ⟨h1, h2⟩ := List.getElem?_eq_some_iff.mp hc
          rw [List.length_range, List.length_map] at h1
          rw [List.getElem_range] at h2
          exact ⟨h2.symm, by omega⟩
        obtain ⟨rfl, hk⟩ := hk
        obtain ⟨x, hx⟩ : ∃ x, w.cs[c]? = some x := ⟨_, List.getElem?_eq_getElem (by omega)⟩
        obtain ⟨y, hy⟩ : ∃ y, w.cs[c + 1]? = some y := ⟨_, List.getElem?_eq_getElem (by omega)⟩
        have hlt := ok.asc c x y hx hy
        have hx' : atI (w.cs.map Con.D) (c : Int) = some x.D := atI_nat (by rw [List.getElem?_map, hx]; rfl)
        have hy' : atI (w.cs.map Con.D) ((c : Int) + 1) = some y.D := atI_nat (i := c + 1) (by rw [List.getElem?_map, hy]; rfl)
        walk_at "ks"
    refine run_ret (run_andT ((run_any (l := w.cs) (p := fun c => decide ((c.k : Int) = 0)) (RunL.toE (run_lc0 (vs := [4, 5]) w.cs Con.D _ (runi_tup ?_) (by omega) fun k c hc => ⟨_, rung2, ?_⟩))).is ?_) ?_) fun B v q => q
    · walk_at "es"
    · walk_at "es"
    · obtain ⟨c, hc, h0⟩ := ok.zero
      apply congrArg PyData.bool
      rw [List.any_eq_true]
      exact ⟨c, hc, by simp [h0]⟩
    · have := ok.trs
      walk_at "es"
      exact this⟩
theorem ok_check_world (T : Tb K mg) : FnOk P w K mg base CX0 4 T.check_world.f T.check_world.fd ["value"] (sp1 K (.w Wd.D) WdOk (fun _ B u => u = .non)) :=
  have G_is_world := ok_is_world (P := P) (w := w) (base := base) T
  fn1 T.check_world.F sc_check_world fun cdv A outer s H E hr => ⟨_, (pss_one (ps_if (pt_not (pt_val (pe_call G_is_world (hr.mono (by omega)) rfl T.is_world.m T.is_world.F.kp T.is_world.b .nil pass0 (pa_cons (vr 0 rfl (.inl rfl)) pa_nil)))) pss_never pss_nil)), fun w ok F hF => by
    walk_at "go"
    refine run_iffF ?_ (run_next fun B => rfl)
    walk_at "ks"⟩
end Ts
set_option Elab.async false
set_option linter.all false
set_option maxRecDepth 100000
set_option maxHeartbeats 2000000
namespace Ts
open PySem PySem.Spec PyProof.Rows L2
local macro_rules | `(tactic| walk_at "go") => `(tactic| simp only [cxK, cxK2, List.map_cons, List.map_nil, List.length_cons, List.length_nil, List.replicate, List.cons_append, List.nil_append, List.append_nil, Pk.ent, Nat.reduceAdd, Nat.reduceSub])
local macro_rules | `(tactic| walk_at "rfl") => `(tactic| with_unfolding_all exact rfl)
local macro_rules | `(tactic| walk_at "op") => `(tactic| with_reducible first
  | exact opd_plusI | exact opd_sub | exact opd_mod (by decide) | exact opb_eqI | exact opb_neI | exact opb_eqS | exact opb_neS | exact opb_eqB | exact opb_neB
  | exact opb_leI | exact opb_gtI | exact opb_geI | exact opb_ltI | exact opb_ltS | exact opb_isN | exact opb_notN | exact opb_inSgF | exact opb_inSLF | exact opb_inSTF | exact opb_inSLT | exact opb_inSTT | exact opb_inS2F | exact opb_inS2T
  | (apply opd_ixT; try walk_at "ix") | (apply opd_ixL; try walk_at "ix") | (apply opd_ixS; rotate_left; try walk_at "ix"; rotate_right) | apply opd_plusT | apply opd_mul | apply opd_div | apply opd_pow)
local macro_rules | `(tactic| walk_at "opD") => `(tactic| with_reducible first
  | walk_at "op" | (apply OpB.toD; walk_at "op"))
local macro_rules | `(tactic| walk_at "call") => `(tactic| with_reducible first
  | apply run_call1 | apply run_call2 | apply run_call3 | apply run_call4 | apply run_call5)
local macro_rules | `(tactic| walk_at "kit") => `(tactic| with_unfolding_all first | exact kit_ii | exact kit_ib | exact kit_ss | exact kit_st | exact kit_ts | exact kit_tt | exact kit_it | exact kit_ns)
local macro_rules | `(tactic| walk_at "ix") => `(tactic| first | exact atI_zero | exact atI_one | assumption | (with_unfolding_all exact rfl))
local macro_rules | `(tactic| walk_at "e") => `(tactic| with_reducible first
  | exact run_int | exact run_str | exact run_bl | exact run_non
  | (apply run_var; walk_at "rfl") | (apply run_wld; walk_at "rfl")
  | exact run_a0 | apply run_a
  | apply run_op | apply run_isi | apply run_chain | apply run_not | apply run_neg
  | apply run_tupF | apply run_tail | apply run_slT | apply run_slS | exact runo_none | apply runo_some
  | apply run_cb | exact call_lenT | exact call_lenL | apply call_lenS | exact call_max
  | (apply rp_w; walk_at "rfl") | apply rp_d
  | walk_at "call" | (apply RunV.toD; walk_at "call") | (apply RunV.toE; walk_at "call")
  | apply test_of | apply test_B | apply test_not
  | exact trivial
  | (apply run_dget1I; apply run_tab; walk_at "rfl") | (apply run_dgetI; apply run_tab; walk_at "rfl") | (apply run_dgetI; apply run_varD; walk_at "rfl")
  | walk_at "kit"
  | (show _ = some _; assumption)
  | walk_at "opD")
local macro_rules | `(tactic| walk_at "es") => `(tactic| repeat' (first | walk_at "e"))
local macro_rules | `(tactic| walk_at "k") => `(tactic| with_reducible first
  | apply test_orF | apply test_andT | apply test_notT | apply test_notF
  | apply run_andT | apply run_orF)
local macro_rules | `(tactic| walk_at "kl") => `(tactic| with_reducible first | (apply RunT.is; apply test_of) | (apply RunT.is; apply test_B) | apply RunE.is)
local macro_rules | `(tactic| walk_at "side") => `(tactic| first | assumption | (apply decide_eq_false; assumption) | (apply decide_eq_true; assumption) | (with_unfolding_all exact rfl) | (simp; done) | (apply congrArg PyData.bool; assumption) | (simp [*]; done))
local macro_rules | `(tactic| walk_at "ks") => `(tactic| ((repeat' (first | walk_at "k")); (all_goals (try walk_at "kl")); (repeat' (first | walk_at "e")); (all_goals (try walk_at "side"))))
local macro_rules | `(tactic| walk_at "le") => `(tactic| repeat' (first | exact Le.nil | apply Le.keep | apply Le.drop))

variable {P : Program} {w : World} {K : PySem.W.Frag} {mg : Str → Option Value} {base : Heap}
/-! ### reckonings -/
abbrev SpReckoned (K : PySem.W.Frag) (d : Nat) : Sp := sp1 K (.d Rk.D) (fun x => x.dep < d) (fun x B u => Dp K B u (.int (x.count : Int)))
theorem ok_reckoned (T : Tb K mg) : ∀ d, FnOk P w K mg base CX0 d T.reckoned.f T.reckoned.fd ["value"] (SpReckoned K d)
  | 0 => ⟨fun _ _ _ _ ⟨_, _, _, _, _, _, z, _⟩ => absurd z (Nat.not_lt_zero _), fun _ _ _ _ _ _ _ _ _ _ _ _ _ ⟨_, _, _, _, _, _, z, _⟩ => absurd z (Nat.not_lt_zero _)⟩
  | d + 1 =>
  have G_reckoned := ok_reckoned T d
  fn1 T.reckoned.F sc_reckoned fun cdv A outer s H E hr => ⟨_, (pss_one (ps_ret (pe_op (op_plusK K rfl) pe_int (pe_callB (cr_sum rfl) rfl T.g_sum (by decide +kernel) (pa_cons (pe_lc (own := [("part", 1)]) rfl sc_reckoned.nd (pi_any (pe_slice (sl_K K rfl) (vr 0 rfl (.inl rfl)) (po_some pe_int) po_none)) (blkOk_by (own := [("part", 1)]) (N := ["value", "part"]) (sc := defScope s_reckoned) (by decide +kernel)) (fun _ _ _ _ _ => (pg_name (i := 1) sc_reckoned.nd rfl (.inl rfl))) (fun _ _ _ _ _ => (pts_one (pt_val (pe_callB (call_isiK2 K rfl) rfl T.g_isinstance (by decide +kernel) (pa_cons (vr 1 rfl (.inl rfl)) (pa_cons (pe_bltn (v := .ty "tuple") rfl T.g_tuple (by decide +kernel) rfl) pa_nil)))))) (fun _ _ _ _ _ => (pe_call G_reckoned (hr.mono (by omega)) rfl T.reckoned.m T.reckoned.F.kp T.reckoned.b .nil pass0 (pa_cons (vr 1 rfl (.inl rfl)) pa_nil)))) pa_nil))))), fun x hd F hF => by
    walk_at "go"
    show RunS K F ?t _ _
    have none_ : ∀ (l : List PyData), (∀ y ∈ l, kitB (tyN y) "tuple" = some false) → l.length ≤ 100 → x.count = 1 → (∃ z, x.D = .tuple (z :: l)) → RunS K F ?t [some (.d x.D), none] (ends0 fun B u => Dp K B u (.int (x.count : Int))) := fun l hl hl2 h1 hz => by
      obtain ⟨z, hz⟩ := hz
      rw [hz]
      refine run_ret ((run_op run_int (run_sum (l := l.filter fun _ => false) (p := fun _ => 0) (RunL.toE (run_lc (vs := [1]) l (fun y => y) (fun _ => false) _ (runi_tup ?_) (by omega) fun k c hc => ⟨_, rung_name (by decide), ?_, fun z => nomatch z⟩))) opd_plusI).is (by rw [h1, List.filter_eq_nil_iff.mpr (by simp)]; rfl)) fun B v q => q
      · rw [List.map_id']
        walk_at "es"
      · have := hl c (List.mem_of_getElem? hc)
        refine test_B (run_isi ?_ this)
        walk_at "es"
    have two_ : ∀ (a b : Rk), a.dep < d → b.dep < d → x.count = 1 + (a.count + b.count) → (∃ z, x.D = .tuple [z, a.D, b.D]) → RunS K F ?t [some (.d x.D), none] (ends0 fun B u => Dp K B u (.int (x.count : Int))) := fun a b h1 h2 h3 hz => by
      obtain ⟨z, hz⟩ := hz
      rw [hz]
      refine run_ret ((run_op run_int (run_sum (l := [a, b].filter fun _ => true) (p := fun p => (p.count : Int)) (RunL.toE (run_lc (vs := [1]) [a, b] Rk.D (fun _ => true) _ (runi_tup ?_) (by simp) fun k c hc => ⟨_, rung_name (by decide), ?_, fun _ => ?_⟩))) opd_plusI).is (by simp [h3])) fun B v q => q
      · walk_at "es"
      · refine test_B (run_isi (d := c.D) ?_ ?_)
        · walk_at "es"
        · cases c <;> exact kit_tt
      · walk_at "es"
        have hm := List.mem_of_getElem? hc
        have : c = a ∨ c = b := by simpa using hm
        rcases this with q | q <;> subst q <;> assumption
    cases x with
    | num n => exact none_ [.int (n : Int)] (by simp; exact kit_it) (by simp) rfl ⟨_, rfl⟩
    | mark => exact none_ [] (by simp) (by simp) rfl ⟨_, rfl⟩
    | plus a b => exact two_ a b (by have : max a.dep b.dep + 1 < d + 1 := hd; omega) (by have : max a.dep b.dep + 1 < d + 1 := hd; omega) rfl ⟨_, rfl⟩
    | times a b => exact two_ a b (by have : max a.dep b.dep + 1 < d + 1 := hd; omega) (by have : max a.dep b.dep + 1 < d + 1 := hd; omega) rfl ⟨_, rfl⟩
    | tell t p => exact none_ [.str t, .int (p : Int)] (by simp; exact ⟨kit_st, kit_it⟩) (by simp) rfl ⟨_, rfl⟩⟩
/-- a reckoning for so many parts -/
inductive RkOk (w : Wd) (parts : Int) : Rk → Prop
  | num {n : Nat} : n ≤ 99 → RkOk w parts (.num n)
  | mark : RkOk w parts .mark
  | plus {a b : Rk} : RkOk w parts a → RkOk w parts b → RkOk w parts (.plus a b)
  | times {a b : Rk} : RkOk w parts a → RkOk w parts b → RkOk w parts (.times a b)
  | tell {t : Str} {p : Nat} : (p : Int) ≤ parts - 1 → (∃ x ∈ w.ts, x.n = t ∧ x.f = "tell") → RkOk w parts (.tell t p)
theorem Rk.D_shape (x : Rk) : ∃ z l, x.D = .tuple (.str z :: l) := by cases x <;> exact ⟨_, _, rfl⟩
/-- the rows' first two -/
abbrev Trt.D2 (t : Trt) : PyData := .tuple [.str t.n, .str t.f]
theorem tellRow {w : Wd} {t f : Str} (h : ∃ x ∈ w.ts, x.n = t ∧ x.f = f) : ((w.ts.map Trt.D2).any fun z => PyData.eqv z (.tuple [.str t, .str f])) = true := by
  obtain ⟨x, hx, rfl, rfl⟩ := h
  rw [List.any_eq_true]
  exact ⟨x.D2, List.mem_map_of_mem hx, by simp [PyData.eqv, PyData.eqvAll]⟩
structure TsPre (w : Wd) : Prop where
  n : w.ts.length ≤ 100
  lay : ∀ t ∈ w.ts, NmOk t.n ∧ NmOk t.f
theorem TsPre.rows {w : Wd} (h : TsPre w) : Sh 2 (.list (w.ts.map Trt.D2)) := .lst fun x hx => by
  obtain ⟨t, ht, rfl⟩ := List.mem_map.mp hx
  refine .tup fun y hy => ?_
  have : y = .str t.n ∨ y = .str t.f := by simpa using hy
  rcases this with q | q <;> subst q
  · exact .str (h.lay t ht).1
  · exact .str (h.lay t ht).2
theorem TsPre.row {w : Wd} (h : TsPre w) {t f : Str} (q : ∃ x ∈ w.ts, x.n = t ∧ x.f = f) : Sh 1 (.tuple [.str t, .str f]) := .tup fun y hy => by
  obtain ⟨x, hx, rfl, rfl⟩ := q
  have : y = .str x.n ∨ y = .str x.f := by simpa using hy
  rcases this with q | q <;> subst q
  · exact .str (h.lay x hx).1
  · exact .str (h.lay x hx).2
theorem run_row {F : Fx} {r : PEnv} {te : TE} {i j : Nat} {w : Wd} (h : TsPre w) (hr : r[0]? = some (some (.wld w.D))) (hi : j ∈ [i]) (hj : ∀ t : Trt, RunE K F te ((wipeR r [i]).set j (some (.d t.D))) t.D2) :
    RunE K F (tLc (iAny K (tOp (rIx K) (tVar 0) (tC (.int 1)))) (gName j) tYes te [i]) r (.list (w.ts.map Trt.D2)) :=
  RunL.toE (run_lc0 (vs := [i]) w.ts Trt.D Trt.D2 (runi_tup (run_op (run_wld hr) run_int (opd_ixT rfl))) (by have := h.n; omega) fun k c hc => ⟨_, rung_name hi, hj c⟩)
abbrev SpReck (K : PySem.W.Frag) (d : Nat) : Sp := sp3 K (.w Wd.D) (.d Rk.D) (.d PyData.int) (fun w x n => TsPre w ∧ RkOk w n x ∧ x.dep < d) (fun w x n B u => Dp K B u (.bool true))
theorem ok_is_reckoning (T : Tb K mg) : ∀ d, FnOk P w K mg base CX0 (d + 1) T.is_reckoning.f T.is_reckoning.fd ["world", "value", "parts"] (SpReck K d)
  | 0 => ⟨fun _ _ _ _ ⟨_, _, _, _, _, _, _, _, _, _, _, _, ⟨_, _, z⟩, _⟩ => absurd z (Nat.not_lt_zero _), fun _ _ _ _ _ _ _ _ _ _ _ _ _ ⟨_, _, _, _, _, _, _, _, _, _, _, _, ⟨_, _, z⟩, _⟩ => absurd z (Nat.not_lt_zero _)⟩
  | d + 1 =>
  have G_is_reckoning := ok_is_reckoning T d
  have G_is_between := ok_is_between (P := P) (w := w) (base := base) T
  fn3 T.is_reckoning.F sc_is_reckoning fun cdv A outer s H E hr => ⟨_, (pss_cons (ps_if (PW.pt (pw_or (pt_not (pt_val (pe_callB (call_isiK2 K rfl) rfl T.g_isinstance (by decide +kernel) (pa_cons (vr 1 rfl (.inl rfl)) (pa_cons (pe_bltn (v := .ty "tuple") rfl T.g_tuple (by decide +kernel) rfl) pa_nil))))) (pw_or (pt_cmpR (op_eqK K rfl (hu64 hr)) (pe_callB (call_lenK K rfl) rfl T.g_len (by decide +kernel) (pa_cons (vr 1 rfl (.inl rfl)) pa_nil)) pe_int (nomark _)) (pw_or1 (pt_not (pt_val (pe_callB (call_isiK2 K rfl) rfl T.g_isinstance (by decide +kernel) (pa_cons (pe_ix (ix_K K rfl) (vr 1 rfl (.inl rfl)) pe_int (fun _ _ => rfl)) (pa_cons (pe_bltn (v := .ty "str") rfl T.g_str (by decide +kernel) rfl) pa_nil))))))))) (pss_one (ps_ret pe_bl)) pss_nil) (pss_cons (ps_if (pt_cmpR (op_eqK K rfl (hu64 hr)) (pe_ix (ix_K K rfl) (vr 1 rfl (.inl rfl)) pe_int (fun _ _ => rfl)) pe_str (nomark _)) (pss_one (ps_ret (pe_and (pe_cmpR (op_eqK K rfl (hu64 hr)) (pe_callB (call_lenK K rfl) rfl T.g_len (by decide +kernel) (pa_cons (vr 1 rfl (.inl rfl)) pa_nil)) pe_int (nomark _)) (pe_one (pe_call G_is_between (hr.mono (by omega)) rfl T.is_between.m T.is_between.F.kp T.is_between.b .nil pass0 (pa_cons (pe_ix (ix_K K rfl) (vr 1 rfl (.inl rfl)) pe_int (fun _ _ => rfl)) (pa_cons pe_int (pa_cons pe_int pa_nil)))))))) pss_nil) (pss_cons (ps_if (pt_cmpR (op_eqK K rfl (hu64 hr)) (pe_ix (ix_K K rfl) (vr 1 rfl (.inl rfl)) pe_int (fun _ _ => rfl)) pe_str (nomark _)) (pss_one (ps_ret (pe_cmpR (op_eqK K rfl (hu64 hr)) (pe_callB (call_lenK K rfl) rfl T.g_len (by decide +kernel) (pa_cons (vr 1 rfl (.inl rfl)) pa_nil)) pe_int (nomark _)))) pss_nil) (pss_cons (ps_if (pt_cmpR (op_inK K rfl (hu65 hr)) (pe_ix (ix_K K rfl) (vr 1 rfl (.inl rfl)) pe_int (fun _ _ => rfl)) (pe_tupF (pa_cons pe_str (pa_cons pe_str pa_nil))) (by rfl)) (pss_one (ps_ret (pe_and (pe_cmpR (op_eqK K rfl (hu64 hr)) (pe_callB (call_lenK K rfl) rfl T.g_len (by decide +kernel) (pa_cons (vr 1 rfl (.inl rfl)) pa_nil)) pe_int (nomark _)) (pe_one (pe_callB (cr_all rfl) rfl T.g_all (by decide +kernel) (pa_cons (pe_lc (own := [("part", 3)]) rfl sc_is_reckoning.nd (pi_any (pe_slice (sl_K K rfl) (vr 1 rfl (.inl rfl)) (po_some pe_int) po_none)) (blkOk_by (own := [("part", 3)]) (N := ["world", "value", "parts", "part", "row"]) (sc := defScope s_is_reckoning) (by decide +kernel)) (fun _ _ _ _ _ => (pg_name (i := 3) sc_is_reckoning.nd rfl (.inl rfl))) (fun _ _ _ _ _ => pts_nil) (fun _ _ _ _ _ => (pe_call G_is_reckoning (hr.mono (by omega)) rfl T.is_reckoning.m T.is_reckoning.F.kp T.is_reckoning.b .nil pass0 (pa_cons (vr 0 rfl (.inr (.inl rfl))) (pa_cons (vr 3 rfl (.inl rfl)) (pa_cons (vr 2 rfl (.inr (.inl rfl))) pa_nil)))))) pa_nil)))))) pss_nil) (pss_cons (ps_if (PW.pt (pw_or (pt_cmpR (op_neK K rfl (hu64 hr)) (pe_ix (ix_K K rfl) (vr 1 rfl (.inl rfl)) pe_int (fun _ _ => rfl)) pe_str (nomark _)) (pw_or (pt_cmpR (op_neK K rfl (hu64 hr)) (pe_callB (call_lenK K rfl) rfl T.g_len (by decide +kernel) (pa_cons (vr 1 rfl (.inl rfl)) pa_nil)) pe_int (nomark _)) (pw_or1 (pt_not (pt_val (pe_call G_is_between (hr.mono (by omega)) rfl T.is_between.m T.is_between.F.kp T.is_between.b .nil pass0 (pa_cons (pe_ix (ix_K K rfl) (vr 1 rfl (.inl rfl)) pe_int (fun _ _ => rfl)) (pa_cons pe_int (pa_cons (pe_op op_subI (vr 2 rfl (.inr (.inl rfl))) pe_int) pa_nil)))))))))) (pss_one (ps_ret pe_bl)) pss_nil) (pss_one (ps_ret (pe_and (pe_callB (call_isiK2 K rfl) rfl T.g_isinstance (by decide +kernel) (pa_cons (pe_ix (ix_K K rfl) (vr 1 rfl (.inl rfl)) pe_int (fun _ _ => rfl)) (pa_cons (pe_bltn (v := .ty "str") rfl T.g_str (by decide +kernel) rfl) pa_nil))) (pe_one (pe_cmpR (op_inK K rfl (hu65 hr)) (pe_tupF (pa_cons (pe_ix (ix_K K rfl) (vr 1 rfl (.inl rfl)) pe_int (fun _ _ => rfl)) (pa_cons pe_str pa_nil))) (pe_lc (own := [("row", 4)]) rfl sc_is_reckoning.nd (pi_any (pe_ix (ix_K K rfl) (vr 0 rfl (.inr (.inl rfl))) pe_int (fun _ _ => rfl))) (blkOk_by (own := [("row", 4)]) (N := ["world", "value", "parts", "part", "row"]) (sc := defScope s_is_reckoning) (by decide +kernel)) (fun _ _ _ _ _ => (pg_name (i := 4) sc_is_reckoning.nd rfl (.inl rfl))) (fun _ _ _ _ _ => pts_nil) (fun _ _ _ _ _ => (pe_slice (sl_K K rfl) (vr 4 rfl (.inl rfl)) po_none (po_some pe_int)))) (by rfl))))))))))), fun w x n ⟨hw, hx, hd⟩ F hF => by
    walk_at "go"
    show RunS K F ?t _ _
    have two_ : ∀ (a b : Rk), a.dep < d → b.dep < d → RkOk w n a → RkOk w n b → ∀ z, x.D = .tuple [.str z, a.D, b.D] → z ∈ [("plus" : Str), ("times" : Str)] → RunS K F ?t [some (.wld w.D), some (.d x.D), some (.d (.int n)), none, none] (ends0 fun B u => Dp K B u (.bool true)) := fun a b h1 h2 h3 h4 z hz hm => by
      rw [hz]
      have hz1 : z ≠ "number" := fun e => by subst e; revert hm; decide
      have hz2 : z ≠ "mark" := fun e => by subst e; revert hm; decide
      apply run_skip
      · walk_at "ks"
      apply run_skip
      · walk_at "ks"
      apply run_skip
      · walk_at "ks"
      refine run_seq (run_iffT ?_ ?_)
      · walk_at "ks"
      refine run_ret (run_andT ?_ ((run_all (l := [a, b]) (p := fun _ => true) (RunL.toE (run_lc0 (vs := [3]) [a, b] Rk.D _ (runi_tup ?_) (by simp) fun k c hc => ⟨_, rung_name (by decide), ?_⟩))).is (by simp))) fun B v q => q
      · walk_at "ks"
      · walk_at "es"
      · walk_at "es"
        have : c = a ∨ c = b := by simpa using List.mem_of_getElem? hc
        rcases this with q | q <;> subst q
        · exact ⟨hw, h3, h1⟩
        · exact ⟨hw, h4, h2⟩
    cases hx with
    | @num m hm =>
      clear two_
      simp only [Rk.D]
      apply run_skip
      · walk_at "ks"
      refine run_seq (run_iffT ?_ ?_)
      · walk_at "ks"
      refine run_ret (run_andT ?_ ?_) fun B v q => q
      · walk_at "ks"
      · walk_at "ks"
        simp
        omega
    | mark =>
      clear two_
      simp only [Rk.D]
      apply run_skip
      · walk_at "ks"
      apply run_skip
      · walk_at "ks"
      refine run_seq (run_iffT ?_ ?_)
      · walk_at "ks"
      refine run_ret ?_ fun B v q => q
      walk_at "ks"
    | @plus a b h1 h2 => exact two_ a b (by have : max a.dep b.dep + 1 < d + 1 := hd; omega) (by have : max a.dep b.dep + 1 < d + 1 := hd; omega) h1 h2 "plus" rfl (by decide)
    | @times a b h1 h2 => exact two_ a b (by have : max a.dep b.dep + 1 < d + 1 := hd; omega) (by have : max a.dep b.dep + 1 < d + 1 := hd; omega) h1 h2 "times" rfl (by decide)
    | @tell t p hp ht =>
      clear two_
      simp only [Rk.D]
      apply run_skip
      · walk_at "ks"
      apply run_skip
      · walk_at "ks"
      apply run_skip
      · walk_at "ks"
      apply run_skip
      · walk_at "ks"
      apply run_skip
      · walk_at "ks"
      refine run_ret (run_andT ?_ ((run_opB ?_ (run_row hw rfl (by decide) fun x => ?_) (opb_inDF (hw.row ht).shaped hw.rows.shaped)).is (by rw [tellRow ht]))) fun B v q => q
      · walk_at "ks"
      · walk_at "es"
        simp
      · exact (run_slT (run_var rfl) runo_none (runo_some run_int)).is rfl⟩
end Ts
set_option Elab.async false
set_option linter.all false
set_option maxRecDepth 100000
set_option maxHeartbeats 2000000
namespace Ts
open PySem PySem.Spec PyProof.Rows L2
local macro_rules | `(tactic| walk_at "go") => `(tactic| simp only [cxK, cxK2, List.map_cons, List.map_nil, List.length_cons, List.length_nil, List.replicate, List.cons_append, List.nil_append, List.append_nil, Pk.ent, Nat.reduceAdd, Nat.reduceSub])
local macro_rules | `(tactic| walk_at "rfl") => `(tactic| with_unfolding_all exact rfl)
local macro_rules | `(tactic| walk_at "op") => `(tactic| with_reducible first
  | exact opd_plusI | exact opd_sub | exact opd_mod (by decide) | exact opb_eqI | exact opb_neI | exact opb_eqS | exact opb_neS | exact opb_eqB | exact opb_neB
  | exact opb_leI | exact opb_gtI | exact opb_geI | exact opb_ltI | exact opb_ltS | exact opb_isN | exact opb_notN | exact opb_inSgF | exact opb_inSLF | exact opb_inSTF | exact opb_inSLT | exact opb_inSTT | exact opb_inS2F | exact opb_inS2T
  | (apply opd_ixT; try walk_at "ix") | (apply opd_ixL; try walk_at "ix") | (apply opd_ixS; rotate_left; try walk_at "ix"; rotate_right) | apply opd_plusT | apply opd_mul | apply opd_div | apply opd_pow)
local macro_rules | `(tactic| walk_at "opD") => `(tactic| with_reducible first
  | walk_at "op" | (apply OpB.toD; walk_at "op"))
local macro_rules | `(tactic| walk_at "call") => `(tactic| with_reducible first
  | apply run_call1 | apply run_call2 | apply run_call3 | apply run_call4 | apply run_call5)
local macro_rules | `(tactic| walk_at "kit") => `(tactic| with_unfolding_all first | exact kit_ii | exact kit_ib | exact kit_ss | exact kit_st | exact kit_ts | exact kit_tt | exact kit_it | exact kit_ns)
local macro_rules | `(tactic| walk_at "ix") => `(tactic| first | exact atI_zero | exact atI_one | assumption | (with_unfolding_all exact rfl))
local macro_rules | `(tactic| walk_at "e") => `(tactic| with_reducible first
  | exact run_int | exact run_str | exact run_bl | exact run_non
  | (apply run_var; walk_at "rfl") | (apply run_wld; walk_at "rfl")
  | exact run_a0 | apply run_a
  | apply run_op | apply run_isi | apply run_chain | apply run_not | apply run_neg
  | apply run_tupF | apply run_tail | apply run_slT | apply run_slS | exact runo_none | apply runo_some
  | apply run_cb | exact call_lenT | exact call_lenL | apply call_lenS | exact call_max
  | (apply rp_w; walk_at "rfl") | apply rp_d
  | walk_at "call" | (apply RunV.toD; walk_at "call") | (apply RunV.toE; walk_at "call")
  | apply test_of | apply test_B | apply test_not
  | exact trivial
  | (apply run_dget1I; apply run_tab; walk_at "rfl") | (apply run_dgetI; apply run_tab; walk_at "rfl") | (apply run_dgetI; apply run_varD; walk_at "rfl")
  | walk_at "kit"
  | (show _ = some _; assumption)
  | walk_at "opD")
local macro_rules | `(tactic| walk_at "es") => `(tactic| repeat' (first | walk_at "e"))
local macro_rules | `(tactic| walk_at "k") => `(tactic| with_reducible first
  | apply test_orF | apply test_andT | apply test_notT | apply test_notF
  | apply run_andT | apply run_orF)
local macro_rules | `(tactic| walk_at "kl") => `(tactic| with_reducible first | (apply RunT.is; apply test_of) | (apply RunT.is; apply test_B) | apply RunE.is)
local macro_rules | `(tactic| walk_at "side") => `(tactic| first | assumption | (apply decide_eq_false; assumption) | (apply decide_eq_true; assumption) | (with_unfolding_all exact rfl) | (simp; done) | (apply congrArg PyData.bool; assumption) | (simp [*]; done))
local macro_rules | `(tactic| walk_at "ks") => `(tactic| ((repeat' (first | walk_at "k")); (all_goals (try walk_at "kl")); (repeat' (first | walk_at "e")); (all_goals (try walk_at "side"))))
local macro_rules | `(tactic| walk_at "le") => `(tactic| repeat' (first | exact Le.nil | apply Le.keep | apply Le.drop))

variable {P : Program} {w : World} {K : PySem.W.Frag} {mg : Str → Option Value} {base : Heap}
abbrev ShortOk (w : Wd) (n : Int) (x : Rk) : Prop := RkOk w n x ∧ x.dep < 6 ∧ x.count ≤ 15
abbrev SpShort (K : PySem.W.Frag) : Sp := sp3 K (.w Wd.D) (.d Rk.D) (.d PyData.int) (fun w x n => TsPre w ∧ ShortOk w n x) (fun w x n B u => Dp K B u (.bool true))
theorem ok_is_short (T : Tb K mg) : FnOk P w K mg base CX0 8 T.is_short.f T.is_short.fd ["world", "value", "parts"] (SpShort K) :=
  have G_is_reckoning := ok_is_reckoning (P := P) (w := w) (base := base) T 6
  have G_reckoned := ok_reckoned (P := P) (w := w) (base := base) T 6
  fn3 T.is_short.F sc_is_short fun cdv A outer s H E hr => ⟨_, (pss_one (ps_ret (pe_and (pe_call G_is_reckoning (hr.mono (by omega)) rfl T.is_reckoning.m T.is_reckoning.F.kp T.is_reckoning.b .nil pass0 (pa_cons (vr 0 rfl (.inl rfl)) (pa_cons (vr 1 rfl (.inl rfl)) (pa_cons (vr 2 rfl (.inl rfl)) pa_nil)))) (pe_one (pe_cmpR op_leI (pe_call G_reckoned (hr.mono (by omega)) rfl T.reckoned.m T.reckoned.F.kp T.reckoned.b .nil pass0 (pa_cons (vr 1 rfl (.inl rfl)) pa_nil)) pe_int (nomark _)))))), fun w x n ⟨hw, hx, hd, hc⟩ F hF => by
    walk_at "go"
    refine run_ret (run_andT ?_ ?_) fun B v q => q
    · walk_at "es"
      exact ⟨hw, hx, hd⟩
    · walk_at "ks"
      all_goals (simp; omega)⟩
/-- bodies -/
inductive BodyOk (w : Wd) (t : Str) (n : Nat) : PyData → Prop
  | tell {x : Rk} : formOf w t = some ("tell" : Str) → ShortOk w (n : Int) x → BodyOk w t n x.D
  | make {x : Rk} {l : List (Str × Rk)} : formOf w t = some ("make" : Str) → ShortOk w (-1) x → l.length = n → (∀ y ∈ l, ShortOk w (-1) y.2 ∧ ∃ z ∈ w.ts, z.n = y.1 ∧ z.f = "make") →
    BodyOk w t n (.tuple (.str "made" :: x.D :: l.map fun y => .tuple [.str y.1, y.2.D]))
structure WPre (w : Wd) : Prop where
  ts : TsPre w
  tab : ConsOk w
theorem ok_is_body (T : Tb K mg) : FnOk P w K mg base CX0 9 T.is_body.f T.is_body.fd ["world", "trait", "root", "value"] (sp4 K (.w Wd.D) (.d PyData.str) (.d (fun (x : Str × Nat) => .str x.1)) (.d (fun (x : PyData) => x)) (fun w t r b => WPre w ∧ ⟨r.1, r.2⟩ ∈ w.cs ∧ r.2 ≤ 2 ∧ BodyOk w t r.2 b) (fun w t r b B u => Dp K B u (.bool true))) :=
  have G_is_short := ok_is_short (P := P) (w := w) (base := base) T
  have G_form_of := ok_form_of (P := P) (w := w) (base := base) T
  fn4 T.is_body.F sc_is_body fun cdv A outer s H E hr => ⟨_, (pss_cons (ps_set (i := 4) sc_is_body.nd rfl (.inl rfl) (pe_dget (hu1 hr) (pe_callTy (call_dictT rfl) rfl T.g_dict (by decide +kernel) (pa_cons (pe_ix (ix_K K rfl) (vr 0 rfl (.inl rfl)) pe_int (fun _ _ => rfl)) pa_nil)) (vr 2 rfl (.inl rfl)) (fun _ _ => rfl))) (pss_cons (ps_if (pt_cmpR (op_eqK K rfl (hu64 hr)) (pe_call G_form_of (hr.mono (by omega)) rfl T.form_of.m T.form_of.F.kp T.form_of.b .nil pass0 (pa_cons (vr 0 rfl (.inl rfl)) (pa_cons (vr 1 rfl (.inl rfl)) pa_nil))) pe_str (nomark _)) (pss_one (ps_ret (pe_call G_is_short (hr.mono (by omega)) rfl T.is_short.m T.is_short.F.kp T.is_short.b .nil pass0 (pa_cons (vr 0 rfl (.inl rfl)) (pa_cons (vr 3 rfl (.inl rfl)) (pa_cons (vr 4 rfl (.inl rfl)) pa_nil)))))) pss_nil) (pss_cons (ps_if (PW.pt (pw_or (pt_not (pt_val (pe_callB (call_isiK2 K rfl) rfl T.g_isinstance (by decide +kernel) (pa_cons (vr 3 rfl (.inl rfl)) (pa_cons (pe_bltn (v := .ty "tuple") rfl T.g_tuple (by decide +kernel) rfl) pa_nil))))) (pw_or (pt_cmpR (op_neK K rfl (hu64 hr)) (pe_callB (call_lenK K rfl) rfl T.g_len (by decide +kernel) (pa_cons (vr 3 rfl (.inl rfl)) pa_nil)) (pe_op (op_plusK K rfl) pe_int (vr 4 rfl (.inl rfl))) (nomark _)) (pw_or1 (pt_cmpR (op_neK K rfl (hu64 hr)) (pe_ix (ix_K K rfl) (vr 3 rfl (.inl rfl)) pe_int (fun _ _ => rfl)) pe_str (nomark _)))))) (pss_one (ps_ret pe_bl)) pss_nil) (pss_cons (ps_if (pt_not (pt_val (pe_call G_is_short (hr.mono (by omega)) rfl T.is_short.m T.is_short.F.kp T.is_short.b .nil pass0 (pa_cons (vr 0 rfl (.inl rfl)) (pa_cons (pe_ix (ix_K K rfl) (vr 3 rfl (.inl rfl)) pe_int (fun _ _ => rfl)) (pa_cons (pe_un un_neg pe_int) pa_nil)))))) (pss_one (ps_ret pe_bl)) pss_nil) (pss_cons (ps_for PassesOwn.never rfl (pi_any (pe_slice (sl_K K rfl) (vr 3 rfl (.inl rfl)) (po_some pe_int) po_none)) (pg_name (i := 5) sc_is_body.nd rfl (.inl rfl)) (pss_cons (ps_if (PW.pt (pw_or (pt_not (pt_val (pe_callB (call_isiK2 K rfl) rfl T.g_isinstance (by decide +kernel) (pa_cons (vr 5 rfl (.inl rfl)) (pa_cons (pe_bltn (v := .ty "tuple") rfl T.g_tuple (by decide +kernel) rfl) pa_nil))))) (pw_or (pt_cmpR (op_neK K rfl (hu64 hr)) (pe_callB (call_lenK K rfl) rfl T.g_len (by decide +kernel) (pa_cons (vr 5 rfl (.inl rfl)) pa_nil)) pe_int (nomark _)) (pw_or1 (pt_not (pt_val (pe_call G_is_short (hr.mono (by omega)) rfl T.is_short.m T.is_short.F.kp T.is_short.b .nil pass0 (pa_cons (vr 0 rfl (.inl rfl)) (pa_cons (pe_ix (ix_K K rfl) (vr 5 rfl (.inl rfl)) pe_int (fun _ _ => rfl)) (pa_cons (pe_un un_neg pe_int) pa_nil)))))))))) (pss_one (ps_ret pe_bl)) pss_nil) (pss_one (ps_if (PW.pt (pw_or (pt_not (pt_val (pe_callB (call_isiK2 K rfl) rfl T.g_isinstance (by decide +kernel) (pa_cons (pe_ix (ix_K K rfl) (vr 5 rfl (.inl rfl)) pe_int (fun _ _ => rfl)) (pa_cons (pe_bltn (v := .ty "str") rfl T.g_str (by decide +kernel) rfl) pa_nil))))) (pw_or1 (pt_cmpR (op_ninK K rfl (hu65 hr)) (pe_tupF (pa_cons (pe_ix (ix_K K rfl) (vr 5 rfl (.inl rfl)) pe_int (fun _ _ => rfl)) (pa_cons pe_str pa_nil))) (pe_lc (own := [("row", 6)]) rfl sc_is_body.nd (pi_any (pe_ix (ix_K K rfl) (vr 0 rfl (.inl rfl)) pe_int (fun _ _ => rfl))) (blkOk_by (own := [("row", 6)]) (N := ["world", "trait", "root", "value", "parts", "part", "row"]) (sc := defScope s_is_body) (by decide +kernel)) (fun _ _ _ _ _ => (pg_name (i := 6) sc_is_body.nd rfl (.inl rfl))) (fun _ _ _ _ _ => pts_nil) (fun _ _ _ _ _ => (pe_slice (sl_K K rfl) (vr 6 rfl (.inl rfl)) po_none (po_some pe_int)))) (by rfl))))) (pss_one (ps_ret pe_bl)) pss_nil)))) (pss_one (ps_ret pe_bl))))))), fun w t r b ⟨hw, hr', hr2, hb⟩ F hF => by
    walk_at "go"
    have h1 := hw.tab _ hr'
    refine run_asgq (d := .int (r.2 : Int)) ?_ ?_
    · walk_at "es"
    cases hb with
    | @tell x hf hx =>
      refine run_seq (run_iffT ((test_op (RunV.toD (run_call2 (x1 := w) (x2 := (t, Str.ofString "tell")) ?_ ?_ ?_)) run_str opb_eqS).is (by simp)) ?_)
      · walk_at "es"
      · exact rp_d (run_var rfl)
      · exact ⟨hw.ts.n, hf⟩
      refine run_ret ?_ fun B v q => q
      refine RunV.toD (run_call3 (x1 := w) (x2 := x) (x3 := (r.2 : Int)) ?_ ?_ ?_ ?_)
      · walk_at "es"
      · exact rp_d (run_var rfl)
      · walk_at "es"
      · exact ⟨hw.ts, hx⟩
    | @make x l hf hx hl hp =>
      apply run_skip
      · refine (test_op (RunV.toD (run_call2 (x1 := w) (x2 := (t, Str.ofString "make")) ?_ ?_ ?_)) run_str opb_eqS).is (decide_eq_false (show ¬ ("make" : Str) = "tell" by decide))
        · walk_at "es"
        · exact rp_d (run_var rfl)
        · exact ⟨hw.ts.n, hf⟩
      apply run_skip
      · walk_at "ks"
        simp [hl]
        omega
      apply run_skip
      · refine test_notT (test_B (RunV.toD (run_call3 (x1 := w) (x2 := x) (x3 := -1) ?_ ?_ ?_ ?_)))
        · walk_at "es"
        · refine rp_d (run_op (run_var rfl) run_int (opd_ixT atI_one))
        · walk_at "es"
        · exact ⟨hw.ts, hx⟩
      have hll : l.length ≤ 2 := by omega
      refine run_seq (run_forM (vs := [5]) l (fun y => .tuple [.str y.1, y.2.D]) (fun i => [some (.wld w.D), none, none, none, none, none, none]) (runi_tup ?_) ?_ (fun i y hi => ⟨_, rung_name (by decide), ?_⟩) ?_)
      · refine run_tail2 (run_var rfl)
      · walk_at "le"
      · obtain ⟨q1, q2⟩ := hp y (List.mem_of_getElem? hi)
        apply run_skip
        · refine test_orF ?_ (test_orF ?_ (test_notT (test_B (RunV.toD (run_call3 (x1 := w) (x2 := y.2) (x3 := -1) ?_ ?_ ?_ ?_)))))
          · walk_at "ks"
          · walk_at "ks"
          · walk_at "es"
          · refine rp_d (run_op (run_var rfl) run_int (opd_ixT rfl))
          · walk_at "es"
          · exact ⟨hw.ts, q1⟩
        refine run_iffF (test_orF ?_ (RunT.is (test_op (a := .tuple [.str y.1, .str "make"]) ?_ (run_row hw.ts rfl (by decide) fun x => (run_slT (run_var rfl) runo_none (runo_some run_int)).is rfl) (opb_inDT (hw.ts.row q2).shaped hw.ts.rows.shaped)) (by rw [tellRow q2]; rfl))) (run_next ?_)
        · walk_at "ks"
        · walk_at "es"
          simp
        · walk_at "le"
      · refine run_ret ?_ fun B v q => q
        walk_at "es"⟩
structure AskPre (w : Wd) (n : Int) (l : List Ask) : Prop where
  len : l.length ≤ 3
  part : ∀ a ∈ l, (a.p : Int) ≤ n - 1
  name : ∀ a ∈ l, a.t ∈ w.ts.map Trt.n
  asc : ∀ (k : Nat) x y, l[k]? = some x → l[k + 1]? = some y → PySem.W.dataLt x.D y.D = true
abbrev asksD (l : List Ask) : PyData := .tuple (l.map Ask.D)
theorem ok_are_asks (T : Tb K mg) : FnOk P w K mg base CX0 2 T.are_asks.f T.are_asks.fd ["world", "value", "parts"] (sp3 K (.w Wd.D) (.d asksD) (.d PyData.int) (fun w l n => w.ts.length ≤ 100 ∧ AskPre w n l) (fun w l n B u => Dp K B u (.bool true))) :=
  have G_trait_names := ok_trait_names (P := P) (w := w) (base := base) T
  have G_is_between := ok_is_between (P := P) (w := w) (base := base) T
  fn3 T.are_asks.F sc_are_asks fun cdv A outer s H E hr => ⟨_, (pss_cons (ps_if (PW.pt (pw_or (pt_not (pt_val (pe_callB (call_isiK2 K rfl) rfl T.g_isinstance (by decide +kernel) (pa_cons (vr 1 rfl (.inr (.inl rfl))) (pa_cons (pe_bltn (v := .ty "tuple") rfl T.g_tuple (by decide +kernel) rfl) pa_nil))))) (pw_or1 (pt_cmpR op_gtI (pe_callB (call_lenK K rfl) rfl T.g_len (by decide +kernel) (pa_cons (vr 1 rfl (.inr (.inl rfl))) pa_nil)) pe_int (nomark _))))) (pss_one (ps_ret pe_bl)) pss_nil) (pss_cons (ps_for PassesOwn.never rfl (pi_any (vr 1 rfl (.inr (.inl rfl)))) (pg_name (i := 3) sc_are_asks.nd rfl (.inl rfl)) (pss_cons (ps_if (PW.pt (pw_or (pt_not (pt_val (pe_callB (call_isiK2 K rfl) rfl T.g_isinstance (by decide +kernel) (pa_cons (vr 3 rfl (.inl rfl)) (pa_cons (pe_bltn (v := .ty "tuple") rfl T.g_tuple (by decide +kernel) rfl) pa_nil))))) (pw_or (pt_cmpR (op_neK K rfl (hu64 hr)) (pe_callB (call_lenK K rfl) rfl T.g_len (by decide +kernel) (pa_cons (vr 3 rfl (.inl rfl)) pa_nil)) pe_int (nomark _)) (pw_or1 (pt_not (pt_val (pe_call G_is_between (hr.mono (by omega)) rfl T.is_between.m T.is_between.F.kp T.is_between.b .nil pass0 (pa_cons (pe_ix (ix_K K rfl) (vr 3 rfl (.inl rfl)) pe_int (fun _ _ => rfl)) (pa_cons pe_int (pa_cons (pe_op op_subI (vr 2 rfl (.inl rfl)) pe_int) pa_nil)))))))))) (pss_one (ps_ret pe_bl)) pss_nil) (pss_one (ps_if (PW.pt (pw_or (pt_not (pt_val (pe_callB (call_isiK2 K rfl) rfl T.g_isinstance (by decide +kernel) (pa_cons (pe_ix (ix_K K rfl) (vr 3 rfl (.inl rfl)) pe_int (fun _ _ => rfl)) (pa_cons (pe_bltn (v := .ty "str") rfl T.g_str (by decide +kernel) rfl) pa_nil))))) (pw_or1 (pt_cmpR (op_ninK K rfl (hu65 hr)) (pe_ix (ix_K K rfl) (vr 3 rfl (.inl rfl)) pe_int (fun _ _ => rfl)) (pe_call G_trait_names (hr.mono (by omega)) rfl T.trait_names.m T.trait_names.F.kp T.trait_names.b .nil pass0 (pa_cons (vr 0 rfl (.inl rfl)) pa_nil)) (by rfl))))) (pss_one (ps_ret pe_bl)) pss_nil)))) (pss_one (ps_ret (pe_callB (cr_all rfl) rfl T.g_all (by decide +kernel) (pa_cons (pe_lc (own := [("k", 4)]) rfl sc_are_asks.nd (pi_range1 rfl T.g_range (pa_cons (pe_op op_subI (pe_callB (call_lenK K rfl) rfl T.g_len (by decide +kernel) (pa_cons (vr 1 rfl (.inr (.inl rfl))) pa_nil)) pe_int) pa_nil)) (blkOk_by (own := [("k", 4)]) (N := ["world", "value", "parts", "ask", "k"]) (sc := defScope s_are_asks) (by decide +kernel)) (fun _ _ _ _ _ => (pg_name (i := 4) sc_are_asks.nd rfl (.inl rfl))) (fun _ _ _ _ _ => pts_nil) (fun _ _ _ _ _ => (pe_cmpR (op_ltK K rfl (hu64 hr)) (pe_ix (ix_K K rfl) (vr 1 rfl (.inr (.inl rfl))) (vr 4 rfl (.inl rfl)) (fun _ _ => rfl)) (pe_ix (ix_K K rfl) (vr 1 rfl (.inr (.inl rfl))) (pe_op (op_plusK K rfl) (vr 4 rfl (.inl rfl)) pe_int) (fun _ _ => rfl)) (nomark _)))) pa_nil)))))), fun w l n ⟨hw, ok⟩ F hF => by
    walk_at "go"
    have hl := ok.len
    apply run_skip
    · walk_at "ks"
      all_goals (simp; omega)
    refine run_seq (run_forM (vs := [3]) l Ask.D (fun i => [some (.wld w.D), some (.d (asksD l)), some (.d (.int n)), none, none]) (runi_tup ?_) ?_ (fun i a hi => ⟨_, rung_name (by decide), ?_⟩) ?_)
    · walk_at "es"
    · walk_at "le"
    · have hm := List.mem_of_getElem? hi
      have q1 := ok.part a hm
      have q2 := ok.name a hm
      apply run_skip
      · walk_at "ks"
        all_goals (simp; omega)
      refine run_iffF ?_ (run_next ?_)
      · walk_at "ks"
      · walk_at "le"
    · refine run_ret ((run_all (l := List.range (((l.map Ask.D).length : Int) - 1).toNat) (p := fun _ => true) (RunL.toE (run_lc0 (vs := [4]) _ (fun (i : Nat) => PyData.int (i : Int)) _ (runi_rng (n := ((l.map Ask.D).length : Int) - 1) ?_ (by omega) (by simp; omega)) (by simp; omega) fun k c hc => ⟨_, rung_name (by decide), ?_⟩))).is (by simp)) fun B v q => q
      · walk_at "es"
      · have hk : c = k ∧ (k : Int) < (l.length : Int) - 1 := by
          obtain ⟨h1, h2⟩ := List.getElem?_eq_some_iff.mp hc
          rw [List.length_range, List.length_map] at h1
          rw [List.getElem_range] at h2
          exact ⟨h2.symm, by omega⟩
        obtain ⟨rfl, hk⟩ := hk
        obtain ⟨x, hx⟩ : ∃ x, l[c]? = some x := ⟨_, List.getElem?_eq_getElem (by omega)⟩
        obtain ⟨y, hy⟩ : ∃ y, l[c + 1]? = some y := ⟨_, List.getElem?_eq_getElem (by omega)⟩
        have hlt := ok.asc c x y hx hy
        have hx' : atI (l.map Ask.D) (c : Int) = some x.D := atI_nat (by rw [List.getElem?_map, hx]; rfl)
        have hy' : atI (l.map Ask.D) ((c : Int) + 1) = some y.D := atI_nat (i := c + 1) (by rw [List.getElem?_map, hy]; rfl)
        refine (run_opB (a := x.D) (b := y.D) ?_ ?_ (opb_ltD ?_ ?_ ?_)).is (by rw [hlt])
        · walk_at "es"
        · walk_at "es"
        · rfl
        · exact fun z => nomatch z
        · simp [PyData.depth, PyData.depthAll]⟩
end Ts
set_option Elab.async false
set_option linter.all false
set_option maxRecDepth 100000
set_option maxHeartbeats 2000000
namespace Ts
open PySem PySem.Spec PyProof.Rows L2
local macro_rules | `(tactic| walk_at "go") => `(tactic| simp only [cxK, cxK2, List.map_cons, List.map_nil, List.length_cons, List.length_nil, List.replicate, List.cons_append, List.nil_append, List.append_nil, Pk.ent, Nat.reduceAdd, Nat.reduceSub])
local macro_rules | `(tactic| walk_at "rfl") => `(tactic| with_unfolding_all exact rfl)
local macro_rules | `(tactic| walk_at "op") => `(tactic| with_reducible first
  | exact opd_plusI | exact opd_sub | exact opd_mod (by decide) | exact opb_eqI | exact opb_neI | exact opb_eqS | exact opb_neS | exact opb_eqB | exact opb_neB
  | exact opb_leI | exact opb_gtI | exact opb_geI | exact opb_ltI | exact opb_ltS | exact opb_isN | exact opb_notN | exact opb_inSgF | exact opb_inSLF | exact opb_inSTF | exact opb_inSLT | exact opb_inSTT | exact opb_inS2F | exact opb_inS2T
  | (apply opd_ixT; try walk_at "ix") | (apply opd_ixL; try walk_at "ix") | (apply opd_ixS; rotate_left; try walk_at "ix"; rotate_right) | apply opd_plusT | apply opd_mul | apply opd_div | apply opd_pow)
local macro_rules | `(tactic| walk_at "opD") => `(tactic| with_reducible first
  | walk_at "op" | (apply OpB.toD; walk_at "op"))
local macro_rules | `(tactic| walk_at "call") => `(tactic| with_reducible first
  | apply run_call1 | apply run_call2 | apply run_call3 | apply run_call4 | apply run_call5)
local macro_rules | `(tactic| walk_at "kit") => `(tactic| with_unfolding_all first | exact kit_ii | exact kit_ib | exact kit_ss | exact kit_st | exact kit_ts | exact kit_tt | exact kit_it | exact kit_ns)
local macro_rules | `(tactic| walk_at "ix") => `(tactic| first | exact atI_zero | exact atI_one | assumption | (with_unfolding_all exact rfl))
local macro_rules | `(tactic| walk_at "e") => `(tactic| with_reducible first
  | exact run_int | exact run_str | exact run_bl | exact run_non
  | (apply run_var; walk_at "rfl") | (apply run_wld; walk_at "rfl")
  | exact run_a0 | apply run_a
  | apply run_op | apply run_isi | apply run_chain | apply run_not | apply run_neg
  | apply run_tupF | apply run_tail | apply run_slT | apply run_slS | exact runo_none | apply runo_some
  | apply run_cb | exact call_lenT | exact call_lenL | apply call_lenS | exact call_max
  | (apply rp_w; walk_at "rfl") | apply rp_d
  | walk_at "call" | (apply RunV.toD; walk_at "call") | (apply RunV.toE; walk_at "call")
  | apply test_of | apply test_B | apply test_not
  | exact trivial
  | (apply run_dget1I; apply run_tab; walk_at "rfl") | (apply run_dgetI; apply run_tab; walk_at "rfl") | (apply run_dgetI; apply run_varD; walk_at "rfl")
  | walk_at "kit"
  | (show _ = some _; assumption)
  | walk_at "opD")
local macro_rules | `(tactic| walk_at "es") => `(tactic| repeat' (first | walk_at "e"))
local macro_rules | `(tactic| walk_at "k") => `(tactic| with_reducible first
  | apply test_orF | apply test_andT | apply test_notT | apply test_notF
  | apply run_andT | apply run_orF)
local macro_rules | `(tactic| walk_at "kl") => `(tactic| with_reducible first | (apply RunT.is; apply test_of) | (apply RunT.is; apply test_B) | apply RunE.is)
local macro_rules | `(tactic| walk_at "side") => `(tactic| first | assumption | (apply decide_eq_false; assumption) | (apply decide_eq_true; assumption) | (with_unfolding_all exact rfl) | (simp; done) | (apply congrArg PyData.bool; assumption) | (simp [*]; done))
local macro_rules | `(tactic| walk_at "ks") => `(tactic| ((repeat' (first | walk_at "k")); (all_goals (try walk_at "kl")); (repeat' (first | walk_at "e")); (all_goals (try walk_at "side"))))
local macro_rules | `(tactic| walk_at "le") => `(tactic| repeat' (first | exact Le.nil | apply Le.keep | apply Le.drop))

variable {P : Program} {w : World} {K : PySem.W.Frag} {mg : Str → Option Value} {base : Heap}
structure InsOk (w : Wd) (i : Ins) : Prop where
  t : i.t ∈ w.ts.map Trt.n
  r : ⟨i.r, i.l.length⟩ ∈ w.cs
  l2 : i.l.length ≤ 2
  l : ∀ x, some x ∈ i.l → ∃ k, ⟨x, k⟩ ∈ w.cs
  a : AskPre w (i.l.length : Int) i.a
  b : BodyOk w i.t i.l.length i.b
theorem ok_is_known_instance (T : Tb K mg) : FnOk P w K mg base CX0 10 T.is_known_instance.f T.is_known_instance.fd ["world", "value"] (sp2 K (.w Wd.D) (.d Ins.D) (fun w i => WPre w ∧ InsOk w i) (fun w i B u => Dp K B u (.bool true))) :=
  have G_trait_names := ok_trait_names (P := P) (w := w) (base := base) T
  have G_are_asks := ok_are_asks (P := P) (w := w) (base := base) T
  have G_is_body := ok_is_body (P := P) (w := w) (base := base) T
  fn2 T.is_known_instance.F sc_is_known_instance fun cdv A outer s H E hr => ⟨_, (pss_cons (ps_if (PW.pt (pw_or (pt_not (pt_val (pe_callB (call_isiK2 K rfl) rfl T.g_isinstance (by decide +kernel) (pa_cons (vr 1 rfl (.inl rfl)) (pa_cons (pe_bltn (v := .ty "tuple") rfl T.g_tuple (by decide +kernel) rfl) pa_nil))))) (pw_or (pt_cmpR (op_neK K rfl (hu64 hr)) (pe_callB (call_lenK K rfl) rfl T.g_len (by decide +kernel) (pa_cons (vr 1 rfl (.inl rfl)) pa_nil)) pe_int (nomark _)) (pw_or1 (pt_not (pt_val (pe_callB (cr_all rfl) rfl T.g_all (by decide +kernel) (pa_cons (pe_lc (own := [("one", 8)]) rfl sc_is_known_instance.nd (pi_any (pe_slice (sl_K K rfl) (vr 1 rfl (.inl rfl)) po_none (po_some pe_int))) (blkOk_by (own := [("one", 8)]) (N := ["world", "value", "trait", "root", "limits", "asks", "body", "table", "one", "limit"]) (sc := defScope s_is_known_instance) (by decide +kernel)) (fun _ _ _ _ _ => (pg_name (i := 8) sc_is_known_instance.nd rfl (.inl rfl))) (fun _ _ _ _ _ => pts_nil) (fun _ _ _ _ _ => (pe_callB (call_isiK2 K rfl) rfl T.g_isinstance (by decide +kernel) (pa_cons (vr 8 rfl (.inl rfl)) (pa_cons (pe_bltn (v := .ty "str") rfl T.g_str (by decide +kernel) rfl) pa_nil))))) pa_nil)))))))) (pss_one (ps_ret pe_bl)) pss_nil) (pss_cons (ps_asg (vr 1 rfl (.inl rfl)) (pg_tupK K rfl (n := 5) rfl (pgs_cons (pg_name (i := 2) sc_is_known_instance.nd rfl (.inl rfl)) (pgs_cons (pg_name (i := 3) sc_is_known_instance.nd rfl (.inl rfl)) (pgs_cons (pg_name (i := 4) sc_is_known_instance.nd rfl (.inl rfl)) (pgs_cons (pg_name (i := 5) sc_is_known_instance.nd rfl (.inl rfl)) (pgs_cons (pg_name (i := 6) sc_is_known_instance.nd rfl (.inl rfl)) pgs_nil))))))) (pss_cons (ps_set (i := 7) sc_is_known_instance.nd rfl (.inr rfl) (pe_callTy (call_dictT rfl) rfl T.g_dict (by decide +kernel) (pa_cons (pe_ix (ix_K K rfl) (vr 0 rfl (.inl rfl)) pe_int (fun _ _ => rfl)) pa_nil))) (pss_cons (ps_if (PW.pt (pw_or (pt_cmpR (op_ninK K rfl (hu65 hr)) (vr 2 rfl (.inl rfl)) (pe_call G_trait_names (hr.mono (by omega)) rfl T.trait_names.m T.trait_names.F.kp T.trait_names.b .nil pass0 (pa_cons (vr 0 rfl (.inl rfl)) pa_nil)) (by rfl)) (pw_or (pt_cmpR (op_ninK K rfl (hu65 hr)) (vr 3 rfl (.inl rfl)) (vr 7 rfl (.inr (.inl rfl))) (by rfl)) (pw_or1 (pt_not (pt_val (pe_callB (call_isiK2 K rfl) rfl T.g_isinstance (by decide +kernel) (pa_cons (vr 4 rfl (.inl rfl)) (pa_cons (pe_bltn (v := .ty "tuple") rfl T.g_tuple (by decide +kernel) rfl) pa_nil))))))))) (pss_one (ps_ret pe_bl)) pss_nil) (pss_cons (ps_if (pt_cmpR (op_neK K rfl (hu64 hr)) (pe_callB (call_lenK K rfl) rfl T.g_len (by decide +kernel) (pa_cons (vr 4 rfl (.inl rfl)) pa_nil)) (pe_dget (hu1 hr) (vr 7 rfl (.inr (.inl rfl))) (vr 3 rfl (.inl rfl)) (fun _ _ => rfl)) (nomark _)) (pss_one (ps_ret pe_bl)) pss_nil) (pss_cons (ps_if (pt_not (pt_val (pe_callB (cr_all rfl) rfl T.g_all (by decide +kernel) (pa_cons (pe_lc (own := [("limit", 9)]) rfl sc_is_known_instance.nd (pi_any (vr 4 rfl (.inl rfl))) (blkOk_by (own := [("limit", 9)]) (N := ["world", "value", "trait", "root", "limits", "asks", "body", "table", "one", "limit"]) (sc := defScope s_is_known_instance) (by decide +kernel)) (fun _ _ _ _ _ => (pg_name (i := 9) sc_is_known_instance.nd rfl (.inl rfl))) (fun _ _ _ _ _ => pts_nil) (fun _ _ _ _ _ => (pe_or (pe_cmpR op_isNn (vr 9 rfl (.inl rfl)) pe_non (nomark _)) (pe_one (pe_and (pe_callB (call_isiK2 K rfl) rfl T.g_isinstance (by decide +kernel) (pa_cons (vr 9 rfl (.inl rfl)) (pa_cons (pe_bltn (v := .ty "str") rfl T.g_str (by decide +kernel) rfl) pa_nil))) (pe_one (pe_cmpR (op_inK K rfl (hu65 hr)) (vr 9 rfl (.inl rfl)) (vr 7 rfl (.inr (.inl rfl))) (by rfl)))))))) pa_nil)))) (pss_one (ps_ret pe_bl)) pss_nil) (pss_one (ps_ret (pe_and (pe_call G_are_asks (hr.mono (by omega)) rfl T.are_asks.m T.are_asks.F.kp T.are_asks.b .nil pass0 (pa_cons (vr 0 rfl (.inl rfl)) (pa_cons (vr 5 rfl (.inl rfl)) (pa_cons (pe_dget (hu1 hr) (vr 7 rfl (.inr (.inl rfl))) (vr 3 rfl (.inl rfl)) (fun _ _ => rfl)) pa_nil)))) (pe_one (pe_call G_is_body (hr.mono (by omega)) rfl T.is_body.m T.is_body.F.kp T.is_body.b .nil pass0 (pa_cons (vr 0 rfl (.inl rfl)) (pa_cons (vr 2 rfl (.inl rfl)) (pa_cons (vr 3 rfl (.inl rfl)) (pa_cons (vr 6 rfl (.inl rfl)) pa_nil))))))))))))))), fun w i ⟨hw, ok⟩ F hF => by
    walk_at "go"
    have hts := hw.ts.n
    have h1 := hw.tab _ ok.r
    have hl2 := ok.l2
    have h1' : valV (conTab w) (.inr i.r) = some (.int (i.l.length : Int)) := h1
    have hit := ok.t
    apply run_skip
    · refine test_orF ?_ (test_orF ?_ (test_notT ((test_B (run_all (l := [i.t, i.r]) (p := fun _ => true) (RunL.toE (run_lc0 (vs := [8]) [i.t, i.r] PyData.str _ (runi_tup ((run_slT (run_var rfl) runo_none (runo_some run_int)).is rfl)) (by simp) fun k c hc => ⟨_, rung_name (by decide), ?_⟩)))).is (by simp))))
      · walk_at "ks"
      · walk_at "ks"
      · walk_at "es"
    refine run_seq (run_asgG (vs := [2,3,4,5,6]) (d := i.D) ?_ rung5 ?_)
    · walk_at "es"
    refine run_seq (run_asgD (run_tab rfl) ?_)
    apply run_skip
    · refine test_orF ?_ (test_orF ?_ ?_)
      · walk_at "ks"
      · refine (test_of (run_inDc (run_var rfl) (run_varD rfl))).is (by rw [h1']; rfl)
      · walk_at "ks"
    apply run_skip
    · walk_at "ks"
    apply run_skip
    · refine test_notT ((test_B (run_all (l := i.l) (p := fun _ => true) (RunL.toE (run_lc0 (vs := [9]) i.l limD _ (runi_tup (run_var rfl)) (by omega) fun k c hc => ⟨_, rung_name (by decide), ?_⟩)))).is (by simp))
      cases c with
      | none =>
        exact run_orT (run_opB (a := .none) (run_var rfl) run_non opb_isN)
      | some x =>
        obtain ⟨k2, hk⟩ := ok.l x (List.mem_of_getElem? hc)
        have h2 : valV (conTab w) (.inr x) = some (.int (k2 : Int)) := hw.tab _ hk
        refine run_orF (run_opB (a := .str x) (run_var rfl) run_non (opb_isNV (k := true) (fun z => nomatch z))) (run_andT ?_ ?_)
        · refine run_isi (d := .str x) (run_var rfl) kit_ss
        · refine (run_inDc (x := x) (run_var rfl) (run_varD rfl)).is (by rw [h2]; rfl)
    refine run_ret (run_andT ?_ ?_) fun B v q => q
    · refine RunV.toD (run_call3 (x1 := w) (x2 := i.a) (x3 := (i.l.length : Int)) ?_ ?_ ?_ ⟨hts, ok.a⟩)
      · walk_at "es"
      · walk_at "es"
      · walk_at "es"
    · refine RunV.toD (run_call4 (x1 := w) (x2 := i.t) (x3 := (i.r, i.l.length)) (x4 := i.b) ?_ ?_ ?_ ?_ ⟨hw, ok.r, hl2, ok.b⟩)
      · walk_at "es"
      · walk_at "es"
      · exact rp_d (run_var rfl)
      · exact rp_d (run_var rfl)⟩
abbrev SpAreIns (K : PySem.W.Frag) : Sp := sp3 K (.w Wd.D) (.d setD) (.d PyData.int) (fun w S n => WPre w ∧ S.length ≤ 8 ∧ (S.length : Int) ≤ n ∧ ∀ i ∈ S, InsOk w i) (fun w i n B u => Dp K B u (.bool true))
theorem ok_are_instances (T : Tb K mg) : FnOk P w K mg base CX0 11 T.are_instances.f T.are_instances.fd ["world", "value", "most"] (SpAreIns K) :=
  have G_is_known_instance := ok_is_known_instance (P := P) (w := w) (base := base) T
  fn3 T.are_instances.F sc_are_instances fun cdv A outer s H E hr => ⟨_, (pss_one (ps_ret (pe_and (pe_callB (call_isiK2 K rfl) rfl T.g_isinstance (by decide +kernel) (pa_cons (vr 1 rfl (.inl rfl)) (pa_cons (pe_bltn (v := .ty "tuple") rfl T.g_tuple (by decide +kernel) rfl) pa_nil))) (pe_and (pe_cmpR op_leI (pe_callB (call_lenK K rfl) rfl T.g_len (by decide +kernel) (pa_cons (vr 1 rfl (.inl rfl)) pa_nil)) (vr 2 rfl (.inl rfl)) (nomark _)) (pe_one (pe_callB (cr_all rfl) rfl T.g_all (by decide +kernel) (pa_cons (pe_lc (own := [("one", 3)]) rfl sc_are_instances.nd (pi_any (vr 1 rfl (.inl rfl))) (blkOk_by (own := [("one", 3)]) (N := ["world", "value", "most", "one"]) (sc := defScope s_are_instances) (by decide +kernel)) (fun _ _ _ _ _ => (pg_name (i := 3) sc_are_instances.nd rfl (.inl rfl))) (fun _ _ _ _ _ => pts_nil) (fun _ _ _ _ _ => (pe_call G_is_known_instance (hr.mono (by omega)) rfl T.is_known_instance.m T.is_known_instance.F.kp T.is_known_instance.b .nil pass0 (pa_cons (vr 0 rfl (.inr (.inl rfl))) (pa_cons (vr 3 rfl (.inl rfl)) pa_nil))))) pa_nil))))))), fun w S n ⟨hw, hl, hn, ok⟩ F hF => by
    walk_at "go"
    refine run_ret (run_andT ?_ (run_andT ?_ ((run_all (l := S) (p := fun _ => true) (RunL.toE (run_lc0 (vs := [3]) S Ins.D _ (runi_tup (run_var rfl)) (by omega) fun k c hc => ⟨_, rung_name (by decide), ?_⟩))).is (by simp)))) fun B v q => q
    · walk_at "ks"
    · walk_at "ks"
    · refine RunV.toD (run_call2 (x1 := w) (x2 := c) ?_ ?_ ⟨hw, ok c (List.mem_of_getElem? hc)⟩)
      · walk_at "es"
      · exact rp_d (run_var rfl)⟩
structure SetOk (w : Wd) (S : List Ins) : Prop where
  wd : WdOk w
  n : S.length ≤ 8
  ok : ∀ i ∈ S, InsOk w i
theorem WdOk.pre {w : Wd} (h : WdOk w) : WPre w := ⟨⟨by have := h.trs.n4; omega, h.trs.lay⟩, h.tab⟩
abbrev SpCkSet (K : PySem.W.Frag) : Sp := sp2 K (.w Wd.D) (.d setD) (fun w S => SetOk w S) (fun w S B u => u = .non)
theorem ok_check_set (T : Tb K mg) : FnOk P w K mg base CX0 12 T.check_set.f T.check_set.fd ["world", "instances"] (SpCkSet K) :=
  have G_check_world := ok_check_world (P := P) (w := w) (base := base) T
  have G_are_instances := ok_are_instances (P := P) (w := w) (base := base) T
  fn2 T.check_set.F sc_check_set fun cdv A outer s H E hr => ⟨_, (pss_cons (ps_expr (pe_call G_check_world (hr.mono (by omega)) rfl T.check_world.m T.check_world.F.kp T.check_world.b .nil pass0 (pa_cons (vr 0 rfl (.inl rfl)) pa_nil))) (pss_one (ps_if (pt_not (pt_val (pe_call G_are_instances (hr.mono (by omega)) rfl T.are_instances.m T.are_instances.F.kp T.are_instances.b .nil pass0 (pa_cons (vr 0 rfl (.inl rfl)) (pa_cons (vr 1 rfl (.inl rfl)) (pa_cons pe_int pa_nil)))))) pss_never pss_nil))), fun w S ok F hF => by
    walk_at "go"
    refine run_seq (run_dropN (run_call1 (x1 := w) ?_ ok.wd) ?_)
    · walk_at "es"
    refine run_iffF (test_notT (test_B (RunV.toD (run_call3 (x1 := w) (x2 := S) (x3 := 8) ?_ ?_ ?_ ⟨ok.wd.pre, ok.n, by have := ok.n; omega, ok.ok⟩)))) (run_next fun B => rfl)
    · walk_at "es"
    · exact rp_d (run_var rfl)
    · walk_at "es"⟩
structure AskOk (w : Wd) (S : List Ins) (t : Str) (s : Srt) : Prop where
  st : SetOk w S
  tr : t ∈ w.ts.map Trt.n
  so : SrtOk w s
  d : s.dep < 8
  z : s.size ≤ 12
abbrev SpCkAsk (K : PySem.W.Frag) : Sp := sp4 K (.w Wd.D) (.d setD) (.d PyData.str) (.d Srt.D) AskOk (fun w S t s B u => u = .non)
theorem ok_check_ask (T : Tb K mg) : FnOk P w K mg base CX0 13 T.check_ask.f T.check_ask.fd ["world", "instances", "trait", "sort"] (SpCkAsk K) :=
  have G_check_set := ok_check_set (P := P) (w := w) (base := base) T
  have G_check_trait := ok_check_trait (P := P) (w := w) (base := base) T
  have G_check_sort := ok_check_sort (P := P) (w := w) (base := base) T
  fn4 T.check_ask.F sc_check_ask fun cdv A outer s H E hr => ⟨_, (pss_cons (ps_expr (pe_call G_check_set (hr.mono (by omega)) rfl T.check_set.m T.check_set.F.kp T.check_set.b .nil pass0 (pa_cons (vr 0 rfl (.inl rfl)) (pa_cons (vr 1 rfl (.inl rfl)) pa_nil)))) (pss_cons (ps_expr (pe_call G_check_trait (hr.mono (by omega)) rfl T.check_trait.m T.check_trait.F.kp T.check_trait.b .nil pass0 (pa_cons (vr 0 rfl (.inl rfl)) (pa_cons (vr 2 rfl (.inl rfl)) pa_nil)))) (pss_one (ps_expr (pe_call G_check_sort (hr.mono (by omega)) rfl T.check_sort.m T.check_sort.F.kp T.check_sort.b .nil pass0 (pa_cons (vr 0 rfl (.inl rfl)) (pa_cons (vr 3 rfl (.inl rfl)) (pa_cons pe_str pa_nil)))))))), fun w S t so ok F hF => by
    walk_at "go"
    refine run_seq (run_dropN (run_call2 (x1 := w) (x2 := S) ?_ ?_ ok.st) ?_)
    · walk_at "es"
    · exact rp_d (run_var rfl)
    refine run_seq (run_dropN (run_call2 (x1 := w) (x2 := t) ?_ ?_ ?_) ?_)
    · walk_at "es"
    · exact rp_d (run_var rfl)
    · exact ⟨ok.st.wd.pre.ts.n, ok.tr⟩
    refine run_dropN (run_call3 (x1 := w) (x2 := so) (x3 := ("" : Str)) ?_ ?_ ?_ ?_) fun B => rfl
    · walk_at "es"
    · exact rp_d (run_var rfl)
    · walk_at "es"
    · exact ⟨ok.st.wd.tab, ok.so, ok.d, ok.z⟩⟩
end Ts
set_option Elab.async false
set_option linter.all false
set_option maxRecDepth 100000
set_option maxHeartbeats 2000000
namespace Ts
open PySem PySem.Spec PyProof.Rows L2
local macro_rules | `(tactic| walk_at "go") => `(tactic| simp only [cxK, cxK2, List.map_cons, List.map_nil, List.length_cons, List.length_nil, List.replicate, List.cons_append, List.nil_append, List.append_nil, Pk.ent, Nat.reduceAdd, Nat.reduceSub])
local macro_rules | `(tactic| walk_at "rfl") => `(tactic| with_unfolding_all exact rfl)
local macro_rules | `(tactic| walk_at "op") => `(tactic| with_reducible first
  | exact opd_plusI | exact opd_sub | exact opd_mod (by decide) | exact opb_eqI | exact opb_neI | exact opb_eqS | exact opb_neS | exact opb_eqB | exact opb_neB
  | exact opb_leI | exact opb_gtI | exact opb_geI | exact opb_ltI | exact opb_ltS | exact opb_isN | exact opb_notN | exact opb_inSgF | exact opb_inSLF | exact opb_inSTF | exact opb_inSLT | exact opb_inSTT | exact opb_inS2F | exact opb_inS2T
  | (apply opd_ixT; try walk_at "ix") | (apply opd_ixL; try walk_at "ix") | (apply opd_ixS; rotate_left; try walk_at "ix"; rotate_right) | apply opd_plusT | apply opd_mul | apply opd_div | apply opd_pow)
local macro_rules | `(tactic| walk_at "opD") => `(tactic| with_reducible first
  | walk_at "op" | (apply OpB.toD; walk_at "op"))
local macro_rules | `(tactic| walk_at "call") => `(tactic| with_reducible first
  | apply run_call1 | apply run_call2 | apply run_call3 | apply run_call4 | apply run_call5)
local macro_rules | `(tactic| walk_at "kit") => `(tactic| with_unfolding_all first | exact kit_ii | exact kit_ib | exact kit_ss | exact kit_st | exact kit_ts | exact kit_tt | exact kit_it | exact kit_ns)
local macro_rules | `(tactic| walk_at "ix") => `(tactic| first | exact atI_zero | exact atI_one | assumption | (with_unfolding_all exact rfl))
local macro_rules | `(tactic| walk_at "e") => `(tactic| with_reducible first
  | exact run_int | exact run_str | exact run_bl | exact run_non
  | (apply run_var; walk_at "rfl") | (apply run_wld; walk_at "rfl")
  | exact run_a0 | apply run_a
  | apply run_op | apply run_isi | apply run_chain | apply run_not | apply run_neg
  | apply run_tupF | apply run_tail | apply run_slT | apply run_slS | exact runo_none | apply runo_some
  | apply run_cb | exact call_lenT | exact call_lenL | apply call_lenS | exact call_max
  | (apply rp_w; walk_at "rfl") | apply rp_d
  | walk_at "call" | (apply RunV.toD; walk_at "call") | (apply RunV.toE; walk_at "call")
  | apply test_of | apply test_B | apply test_not
  | exact trivial
  | (apply run_dget1I; apply run_tab; walk_at "rfl") | (apply run_dgetI; apply run_tab; walk_at "rfl") | (apply run_dgetI; apply run_varD; walk_at "rfl")
  | walk_at "kit"
  | (show _ = some _; assumption)
  | walk_at "opD")
local macro_rules | `(tactic| walk_at "es") => `(tactic| repeat' (first | walk_at "e"))
local macro_rules | `(tactic| walk_at "k") => `(tactic| with_reducible first
  | apply test_orF | apply test_andT | apply test_notT | apply test_notF
  | apply run_andT | apply run_orF)
local macro_rules | `(tactic| walk_at "kl") => `(tactic| with_reducible first | (apply RunT.is; apply test_of) | (apply RunT.is; apply test_B) | apply RunE.is)
local macro_rules | `(tactic| walk_at "side") => `(tactic| first | assumption | (apply decide_eq_false; assumption) | (apply decide_eq_true; assumption) | (with_unfolding_all exact rfl) | (simp; done) | (apply congrArg PyData.bool; assumption) | (simp [*]; done))
local macro_rules | `(tactic| walk_at "ks") => `(tactic| ((repeat' (first | walk_at "k")); (all_goals (try walk_at "kl")); (repeat' (first | walk_at "e")); (all_goals (try walk_at "side"))))
local macro_rules | `(tactic| walk_at "le") => `(tactic| repeat' (first | exact Le.nil | apply Le.keep | apply Le.drop))

variable {P : Program} {w : World} {K : PySem.W.Frag} {mg : Str → Option Value} {base : Heap}
/-! ### fitting -/
def limFit : Option Str → Str → Bool
  | none, _ => true
  | some x, y => decide (y = x)
/-- zip(limits, parts) -/
def limsFit : List (Option Str) → List Str → Bool
  | l :: ls, p :: ps => limFit l p && limsFit ls ps
  | _, _ => true
def fitB (i : Ins) (s : Srt) : Bool := decide (i.r = s.n) && limsFit i.l (s.ps.map Srt.n)
abbrev pairLS (x : Option Str × Srt) : PyData := .tuple [limD x.1, x.2.T]
theorem zip_ls : ∀ (ls : List (Option Str)) (ps : List Srt), zipD (ls.map limD) (ps.map Srt.T) = (ls.zip ps).map pairLS
  | [], ps => by simp [zipD]
  | l :: ls, [] => by simp [zipD]
  | l :: ls, p :: ps => by
    rw [List.map_cons, List.map_cons, zipD, zip_ls ls ps, List.zip_cons_cons, List.map_cons]
theorem limsFit_zip : ∀ (ls : List (Option Str)) (ps : List Srt), limsFit ls (ps.map Srt.n) = (ls.zip ps).all fun x => limFit x.1 x.2.n
  | [], ps => by simp [limsFit]
  | l :: ls, [] => by simp [limsFit]
  | l :: ls, p :: ps => by
    rw [List.map_cons, limsFit, limsFit_zip ls ps, List.zip_cons_cons, List.all_cons]
abbrev SpFit (K : PySem.W.Frag) : Sp := sp2 K (.d Ins.D) (.d Srt.D) (fun _ _ => True) (fun i s B u => Dp K B u (.bool (fitB i s)))
theorem all_take {al : Type} {l : List al} {p : al → Bool} (h : ∀ (j : Nat) x, l[j]? = some x → p x = true) : l.all p = true := by
  rw [List.all_eq_true]
  intro x hx
  obtain ⟨j, hj⟩ := List.getElem?_of_mem hx
  exact h j x hj
/-- a loop that leaves early with an answer: all p, or the answer `out` -/
theorem run_forAll {al : Type} {F : Fx} {r : PEnv} {vs : List Nat} {wi : TI} {g : TG} {t : TS} {E : Pst} (l : List al) (enc : al → PyData) (p : al → Bool) (hi : RunI K F wi r (l.map enc))
    (ht : ∀ (i : Nat) (x : al), l[i]? = some x → ∃ r1, RunG K F vs g (enc x) r r1 ∧ (p x = true → RunS K F t r1 { E with nx := fun r' => Le r r', ct := fun r' => Le r r', bk := E.nx }) ∧ (p x = false → l.all p = false → ∀ E', E'.rt = E.rt → RunS K F t r1 E'))
    (hd : l.all p = true → E.nx r) : RunS K F (tFor wi g t) r E := fun s B H ok D hn hr hb hc =>
  hi s B H ok _ fun J G B1 H1 g1 hG hst w => by
    refine for_it w.walk (fun i s' Hc => ∃ Bc, EnvOk K F Bc Hc s' r ∧ G Bc Hc ∧ Same B Bc ∧ ∀ (j : Nat) x, j < i → l[j]? = some x → p x = true) ⟨B1, ok.grow g1, hG, g1.bb, fun j x hj => absurd hj (Nat.not_lt_zero _)⟩ (fun i s' Hc _ ⟨Bc, _, q, _⟩ => ⟨Bc, q⟩) (fun i x s' Hc H' hi ⟨Bc, ok', q, sb, hp⟩ y => ?_) (fun s' Hc ⟨Bc, ok', q, sb, hp⟩ => ?_)
    · obtain ⟨B', d, gr, hdi, dx⟩ := y Bc q ok'.bh
      rw [List.getElem?_map] at hdi
      obtain ⟨x', hx', rfl⟩ := Option.map_eq_some_iff.mp hdi
      obtain ⟨r1, hg, h1, h2⟩ := ht i x' hx'
      refine hg s' B' H' x (ok'.grow gr) dx _ fun s2 ok2 _ => ?_
      cases hpx : p x' with
      | true =>
        have hp' : ∀ (j : Nat) x, j < i + 1 → l[j]? = some x → p x = true := fun j z hj hz => by
          by_cases e : j = i
          · subst e
            rw [hx'] at hz
            cases hz
            exact hpx
          · exact hp j z (by omega) hz
        refine h1 hpx s2 B' H' ok2 _ (fun s3 B3 H3 r3 le ok3 sb3 => ⟨B3, ok3.weak le, hst _ _ _ _ q (gr.bb.trans sb3) ok3.bh, sb.trans (gr.bb.trans sb3), hp'⟩) (fun v s3 B3 H3 r3 q3 ok3 sb3 => hr v s3 B3 H3 r3 q3 ok3 (sb.trans (gr.bb.trans sb3)))
          (fun s3 B3 H3 r3 q3 ok3 sb3 => hn s3 B3 H3 r3 q3 ok3 (sb.trans (gr.bb.trans sb3))) (fun s3 B3 H3 r3 le ok3 sb3 => ⟨B3, ok3.weak le, hst _ _ _ _ q (gr.bb.trans sb3) ok3.bh, sb.trans (gr.bb.trans sb3), hp'⟩)
      | false =>
        have ha : l.all p = false := by
          rw [← Bool.not_eq_true, List.all_eq_true]
          exact fun z => by
            have := z x' (List.mem_of_getElem? hx')
            rw [hpx] at this
            cases this
        exact h2 hpx ha ⟨fun _ => False, E.rt, fun _ => False, fun _ => False⟩ rfl s2 B' H' ok2 _ (fun _ _ _ _ z => z.elim) (fun v s3 B3 H3 r3 q3 ok3 sb3 => hr v s3 B3 H3 r3 q3 ok3 (sb.trans (gr.bb.trans sb3))) (fun _ _ _ _ z => z.elim) (fun _ _ _ _ z => z.elim)
    · exact hn s' Bc Hc _ (hd (all_take fun j x hj => hp j x (by rw [List.length_map]; exact (List.getElem?_eq_some_iff.mp hj).1) hj)) ok' sb
theorem fit_cond {F : Fx} {r : PEnv} {l : Option Str} {p : Srt} (e2 : r[2]? = some (some (.d (limD l)))) (e3 : r[3]? = some (some (.d p.T))) :
    RunT K F (tAnd (tTest (tOp rNotNn (tVar 2) (tC V.non))) (tOr (tB (tCB (rIsi K) (tCons (tVar 3) (tCons (tC (V.ty "str")) tNil)))) (tTest (tOp (rNeA K) (tOp (rIx K) (tVar 3) (tC (V.int 0))) (tVar 2))))) r (!limFit l p.n) := by
  rw [Srt.T_eq] at e3
  cases l with
  | none => exact test_andF (test_op (a := .none) (run_var e2) run_non opb_notN)
  | some y =>
    refine test_andT (test_op (a := .str y) (run_var e2) run_non (opb_notNV (fun z => nomatch z))) (test_orF (test_B (run_isi (d := p.D) (run_var e3) kit_ts)) ?_)
    exact test_op (run_op (run_var e3) run_int (opd_ixT atI_zero)) (run_var e2) opb_neS
theorem ok_does_fit (T : Tb K mg) : FnOk P w K mg base CX0 1 T.does_fit.f T.does_fit.fd ["instance", "sort"] (SpFit K) :=
  fn2 T.does_fit.F sc_does_fit fun cdv A outer s H E hr => ⟨_, (pss_cons (ps_if (pt_cmpR (op_neK K rfl (hu64 hr)) (pe_ix (ix_K K rfl) (vr 0 rfl (.inl rfl)) pe_int (fun _ _ => rfl)) (pe_ix (ix_K K rfl) (vr 1 rfl (.inl rfl)) pe_int (fun _ _ => rfl)) (nomark _)) (pss_one (ps_ret pe_bl)) pss_nil) (pss_cons (ps_for PassesOwn.never rfl (pi_zipX rfl T.g_zip (pa_cons (pe_ix (ix_K K rfl) (vr 0 rfl (.inl rfl)) pe_int (fun _ _ => rfl)) (pa_cons (pe_slice (sl_K K rfl) (vr 1 rfl (.inl rfl)) (po_some pe_int) po_none) pa_nil))) (pg_tupK K rfl (n := 2) rfl (pgs_cons (pg_name (i := 2) sc_does_fit.nd rfl (.inl rfl)) (pgs_cons (pg_name (i := 3) sc_does_fit.nd rfl (.inl rfl)) pgs_nil))) (pss_one (ps_if (PW.pt (pw_and (pt_cmpR op_notNn (vr 2 rfl (.inl rfl)) pe_non (nomark _)) (pw_and1 (PW.pt (pw_or (pt_val (pe_callB (call_isiK2 K rfl) rfl T.g_isinstance (by decide +kernel) (pa_cons (vr 3 rfl (.inl rfl)) (pa_cons (pe_bltn (v := .ty "str") rfl T.g_str (by decide +kernel) rfl) pa_nil)))) (pw_or1 (pt_cmpR (op_neK K rfl (hu64 hr)) (pe_ix (ix_K K rfl) (vr 3 rfl (.inl rfl)) pe_int (fun _ _ => rfl)) (vr 2 rfl (.inl rfl)) (nomark _)))))))) (pss_one (ps_ret pe_bl)) pss_nil))) (pss_one (ps_ret pe_bl)))), fun i so _ F hF => by
    walk_at "go"
    refine run_seq (run_iff (k := !decide (i.r = so.n)) ?_ (fun hk => ?_) (fun hk => run_next ?_))
    · walk_at "es"
    · refine run_ret run_bl fun B v q => ?_
      have : fitB i so = false := by
        unfold fitB
        rw [show decide (i.r = so.n) = false by simpa using hk]
        rfl
      rw [this]
      exact q
    · have hroot : decide (i.r = so.n) = true := by simpa using hk
      have hfit : fitB i so = (i.l.zip so.ps).all fun x => limFit x.1 x.2.n := by
        unfold fitB
        rw [hroot, limsFit_zip]
        rfl
      rw [hfit]
      refine run_seq (run_forAll (vs := [2, 3]) (i.l.zip so.ps) pairLS (fun x => limFit x.1 x.2.n) ?_ (fun k x hx => ?_) (fun ha => ?_))
      · rw [← zip_ls]
        refine runi_zipTT ?_
        walk_at "es"
      · refine ⟨_, rung2, fun hp => ?_, fun hp ha E' hE => ?_⟩
        · exact run_iffF ((fit_cond (l := x.1) (p := x.2) rfl rfl).is (by rw [hp]; rfl)) (run_next (by walk_at "le"))
        · refine run_iffT ((fit_cond (l := x.1) (p := x.2) rfl rfl).is (by rw [hp]; rfl)) (run_ret run_bl fun B v q => ?_)
          rw [hE, ha]
          exact q
      · rw [ha]
        exact run_ret run_bl fun B v q => q⟩
/-! ### fits_roots, more_special -/
abbrev pairLR (x : Option Str × Str) : PyData := .tuple [limD x.1, .str x.2]
theorem zip_lr : ∀ (ls : List (Option Str)) (ps : List Str), zipD (ls.map limD) (ps.map .str) = (ls.zip ps).map pairLR
  | [], ps => by simp [zipD]
  | l :: ls, [] => by simp [zipD]
  | l :: ls, p :: ps => by
    rw [List.map_cons, List.map_cons, zipD, zip_lr ls ps, List.zip_cons_cons, List.map_cons]
theorem limsFit_zip' : ∀ (ls : List (Option Str)) (ps : List Str), limsFit ls ps = (ls.zip ps).all fun x => limFit x.1 x.2
  | [], ps => by simp [limsFit]
  | l :: ls, [] => by simp [limsFit]
  | l :: ls, p :: ps => by
    rw [limsFit, limsFit_zip' ls ps, List.zip_cons_cons, List.all_cons]
/-- a limit and a name -/
def limV : Option Str → V
  | none => .non
  | some x => .str x
theorem toV_lim (x : Option Str) : toV (limD x) = some (limV x) := by cases x <;> rfl
theorem limV_eq (x y : Option Str) : decide (limV x = limV y) = decide (x = y) := by cases x <;> cases y <;> simp [limV]
theorem scal_lim (x y : Option Str) : scal (limV x) (limV y) = true := by cases x <;> cases y <;> rfl
theorem opb_eqL {x y : Option Str} : OpB K (rEqA K) (limD x) (limD y) (decide (x = y)) := (opb_eqV (toV_lim x) (toV_lim y) (scal_lim x y)).is (limV_eq x y)
theorem opb_isL {x : Option Str} : OpB K rIsNn (limD x) .none (decide (x = none)) := by
  cases x with
  | none => exact opb_isN.is (by simp)
  | some x => exact (opb_isNV (k := true) (by simp [limD])).is (by simp)
theorem opb_notL {x : Option Str} : OpB K rNotNn (limD x) .none (!decide (x = none)) := by
  cases x with
  | none => exact opb_notN.is (by simp)
  | some x => exact (opb_notNV (by simp [limD])).is (by simp)
abbrev SpRoots (K : PySem.W.Frag) : Sp := sp3 K (.d Ins.D) (.d PyData.str) (.d (fun (l : List Str) => .list (l.map .str))) (fun i _ _ => i.l.length ≤ 100) (fun i n l B u => Dp K B u (.bool (decide (i.r = n) && limsFit i.l l)))
theorem ok_fits_roots (T : Tb K mg) : FnOk P w K mg base CX0 1 T.fits_roots.f T.fits_roots.fd ["instance", "root", "roots"] (SpRoots K) :=
  fn3 T.fits_roots.F sc_fits_roots fun cdv A outer s H E hr => ⟨_, (pss_cons (ps_if (pt_cmpR (op_neK K rfl (hu64 hr)) (pe_ix (ix_K K rfl) (vr 0 rfl (.inl rfl)) pe_int (fun _ _ => rfl)) (vr 1 rfl (.inl rfl)) (nomark _)) (pss_one (ps_ret pe_bl)) pss_nil) (pss_one (ps_ret (pe_callB (cr_all rfl) rfl T.g_all (by decide +kernel) (pa_cons (pe_lc (own := [("limit", 3), ("one", 4)]) rfl sc_fits_roots.nd (pi_zipX rfl T.g_zip (pa_cons (pe_ix (ix_K K rfl) (vr 0 rfl (.inl rfl)) pe_int (fun _ _ => rfl)) (pa_cons (vr 2 rfl (.inl rfl)) pa_nil))) (blkOk_by (own := [("limit", 3), ("one", 4)]) (N := ["instance", "root", "roots", "limit", "one"]) (sc := defScope s_fits_roots) (by decide +kernel)) (fun _ _ _ _ _ => (pg_tupK K rfl (n := 2) rfl (pgs_cons (pg_name (i := 3) sc_fits_roots.nd rfl (.inl rfl)) (pgs_cons (pg_name (i := 4) sc_fits_roots.nd rfl (.inl rfl)) pgs_nil)))) (fun _ _ _ _ _ => pts_nil) (fun _ _ _ _ _ => (pe_or (pe_cmpR op_isNn (vr 3 rfl (.inl rfl)) pe_non (nomark _)) (pe_one (pe_cmpR (op_eqK K rfl (hu64 hr)) (vr 3 rfl (.inl rfl)) (vr 4 rfl (.inl rfl)) (nomark _)))))) pa_nil))))), fun i n l hi F hF => by
    walk_at "go"
    refine run_seq (run_iff (k := !decide (i.r = n)) ?_ (fun hk => ?_) (fun hk => run_next ?_))
    · walk_at "es"
    · refine run_ret run_bl fun B v q => ?_
      rw [show decide (i.r = n) = false by simpa using hk]
      exact q
    · have hroot : decide (i.r = n) = true := by simpa using hk
      rw [hroot, Bool.true_and, limsFit_zip']
      refine run_ret (run_all (l := i.l.zip l) (p := fun x => limFit x.1 x.2) (RunL.toE (run_lc0 (vs := [3, 4]) (i.l.zip l) pairLR _ ?_ ?_ fun k x hx => ⟨_, rung2, ?_⟩))) fun B v q => q
      · rw [← zip_lr]
        refine runi_zipTL ?_
        walk_at "es"
      · rw [List.length_zip]
        omega
      · refine (run_or (k := decide (x.1 = none)) (l := decide (x.1 = some x.2)) (run_opB (a := limD x.1) (run_var rfl) run_non opb_isL) fun _ => run_opB (a := limD x.1) (b := limD (some x.2)) (run_var rfl) (run_var rfl) opb_eqL).is (congrArg PyData.bool ?_)
        cases x.1 <;> simp [limFit, eq_comm]⟩
/-- for all places: the second has none, or both the same -/
def limsLe : List (Option Str) → List (Option Str) → Bool
  | x :: xs, y :: ys => (decide (y = none) || decide (x = y)) && limsLe xs ys
  | _, _ => true
def moreB (i j : Ins) : Bool := !decide (i.l = j.l) && limsLe i.l j.l
abbrev pairLL (x : Option Str × Option Str) : PyData := .tuple [limD x.1, limD x.2]
theorem zip_ll : ∀ (ls ps : List (Option Str)), zipD (ls.map limD) (ps.map limD) = (ls.zip ps).map pairLL
  | [], ps => by simp [zipD]
  | l :: ls, [] => by simp [zipD]
  | l :: ls, p :: ps => by
    rw [List.map_cons, List.map_cons, zipD, zip_ll ls ps, List.zip_cons_cons, List.map_cons]
theorem limsLe_zip : ∀ (ls ps : List (Option Str)), limsLe ls ps = (ls.zip ps).all fun x => decide (x.2 = none) || decide (x.1 = x.2)
  | [], ps => by simp [limsLe]
  | l :: ls, [] => by simp [limsLe]
  | l :: ls, p :: ps => by
    rw [limsLe, limsLe_zip ls ps, List.zip_cons_cons, List.all_cons]
abbrev LimsOk (l : List (Option Str)) : Prop := l.length ≤ 100 ∧ ∀ x, some x ∈ l → NmOk x
theorem sh_lims {l : List (Option Str)} (h : LimsOk l) : Sh 1 (.tuple (l.map limD)) := .tup fun y hy => by
  obtain ⟨x, hx, rfl⟩ := List.mem_map.mp hy
  cases x with
  | none => exact .non
  | some x => exact .str (h.2 x hx)
theorem eqv_lims (l m : List (Option Str)) : PyData.eqv (.tuple (l.map limD)) (.tuple (m.map limD)) = decide (l = m) := by
  have hb : ∀ l : List (Option Str), nb (.tuple (l.map limD)) = true := fun l => by
    rw [nb]
    exact nbAll_of fun x hx => by
      obtain ⟨y, _, rfl⟩ := List.mem_map.mp hx
      exact nb_lim y
  have := eqv_iff _ _ (hb l) (hb m)
  by_cases h : l = m
  · subst h
    rw [decide_eq_true rfl]
    exact this.mpr rfl
  · rw [decide_eq_false h, ← Bool.not_eq_true]
    intro z
    have z := this.mp z
    injection z with z
    exact h (map_inj (fun _ _ => limD_inj) z)
abbrev SpMore (K : PySem.W.Frag) : Sp := sp2 K (.d Ins.D) (.d Ins.D) (fun i j => LimsOk i.l ∧ LimsOk j.l) (fun i j B u => Dp K B u (.bool (moreB i j)))
theorem ok_more_special (T : Tb K mg) : FnOk P w K mg base CX0 1 T.more_special.f T.more_special.fd ["one", "other"] (SpMore K) :=
  fn2 T.more_special.F sc_more_special fun cdv A outer s H E hr => ⟨_, (pss_cons (ps_if (pt_cmpR (op_eqK K rfl (hu64 hr)) (pe_ix (ix_K K rfl) (vr 0 rfl (.inl rfl)) pe_int (fun _ _ => rfl)) (pe_ix (ix_K K rfl) (vr 1 rfl (.inl rfl)) pe_int (fun _ _ => rfl)) (nomark _)) (pss_one (ps_ret pe_bl)) pss_nil) (pss_one (ps_ret (pe_callB (cr_all rfl) rfl T.g_all (by decide +kernel) (pa_cons (pe_lc (own := [("first", 2), ("second", 3)]) rfl sc_more_special.nd (pi_zipX rfl T.g_zip (pa_cons (pe_ix (ix_K K rfl) (vr 0 rfl (.inl rfl)) pe_int (fun _ _ => rfl)) (pa_cons (pe_ix (ix_K K rfl) (vr 1 rfl (.inl rfl)) pe_int (fun _ _ => rfl)) pa_nil))) (blkOk_by (own := [("first", 2), ("second", 3)]) (N := ["one", "other", "first", "second"]) (sc := defScope s_more_special) (by decide +kernel)) (fun _ _ _ _ _ => (pg_tupK K rfl (n := 2) rfl (pgs_cons (pg_name (i := 2) sc_more_special.nd rfl (.inl rfl)) (pgs_cons (pg_name (i := 3) sc_more_special.nd rfl (.inl rfl)) pgs_nil)))) (fun _ _ _ _ _ => pts_nil) (fun _ _ _ _ _ => (pe_or (pe_cmpR op_isNn (vr 3 rfl (.inl rfl)) pe_non (nomark _)) (pe_one (pe_cmpR (op_eqK K rfl (hu64 hr)) (vr 2 rfl (.inl rfl)) (vr 3 rfl (.inl rfl)) (nomark _)))))) pa_nil))))), fun i j ⟨hi, hj⟩ F hF => by
    walk_at "go"
    unfold moreB
    refine run_seq (run_iff (k := decide (i.l = j.l)) ?_ (fun hk => ?_) (fun hk => run_next ?_))
    · exact (test_op (a := .tuple (i.l.map limD)) (b := .tuple (j.l.map limD)) (run_op (run_var rfl) run_int (opd_ixT rfl)) (run_op (run_var rfl) run_int (opd_ixT rfl)) (opb_eqD (sh_lims hi).shaped (sh_lims hj).shaped)).is (eqv_lims _ _)
    · refine run_ret run_bl fun B v q => ?_
      rw [hk]
      exact q
    · rw [hk, limsLe_zip]
      refine run_ret (run_all (l := i.l.zip j.l) (p := fun x => decide (x.2 = none) || decide (x.1 = x.2)) (RunL.toE (run_lc0 (vs := [2, 3]) (i.l.zip j.l) pairLL _ ?_ ?_ fun k x hx => ⟨_, rung2, ?_⟩))) fun B v q => q
      · rw [← zip_ll]
        refine runi_zipTT ?_
        walk_at "es"
      · rw [List.length_zip]
        have := hi.1
        omega
      · exact run_or (run_opB (a := limD x.2) (run_var rfl) run_non opb_isL) fun _ => run_opB (a := limD x.1) (b := limD x.2) (run_var rfl) (run_var rfl) opb_eqL⟩
end Ts
set_option Elab.async false
set_option linter.all false
set_option maxRecDepth 100000
set_option maxHeartbeats 2000000
namespace Ts
open PySem PySem.Spec PyProof.Rows L2
local macro_rules | `(tactic| walk_at "go") => `(tactic| simp only [cxK, cxK2, List.map_cons, List.map_nil, List.length_cons, List.length_nil, List.replicate, List.cons_append, List.nil_append, List.append_nil, Pk.ent, Nat.reduceAdd, Nat.reduceSub])
local macro_rules | `(tactic| walk_at "rfl") => `(tactic| with_unfolding_all exact rfl)
local macro_rules | `(tactic| walk_at "op") => `(tactic| with_reducible first
  | exact opd_plusI | exact opd_sub | exact opd_mod (by decide) | exact opb_eqI | exact opb_neI | exact opb_eqS | exact opb_neS | exact opb_eqB | exact opb_neB
  | exact opb_leI | exact opb_gtI | exact opb_geI | exact opb_ltI | exact opb_ltS | exact opb_isN | exact opb_notN | exact opb_inSgF | exact opb_inSLF | exact opb_inSTF | exact opb_inSLT | exact opb_inSTT | exact opb_inS2F | exact opb_inS2T
  | (apply opd_ixT; try walk_at "ix") | (apply opd_ixL; try walk_at "ix") | (apply opd_ixS; rotate_left; try walk_at "ix"; rotate_right) | apply opd_plusT | apply opd_mul | apply opd_div | apply opd_pow)
local macro_rules | `(tactic| walk_at "opD") => `(tactic| with_reducible first
  | walk_at "op" | (apply OpB.toD; walk_at "op"))
local macro_rules | `(tactic| walk_at "call") => `(tactic| with_reducible first
  | apply run_call1 | apply run_call2 | apply run_call3 | apply run_call4 | apply run_call5)
local macro_rules | `(tactic| walk_at "kit") => `(tactic| with_unfolding_all first | exact kit_ii | exact kit_ib | exact kit_ss | exact kit_st | exact kit_ts | exact kit_tt | exact kit_it | exact kit_ns)
local macro_rules | `(tactic| walk_at "ix") => `(tactic| first | exact atI_zero | exact atI_one | assumption | (with_unfolding_all exact rfl))
local macro_rules | `(tactic| walk_at "e") => `(tactic| with_reducible first
  | exact run_int | exact run_str | exact run_bl | exact run_non
  | (apply run_var; walk_at "rfl") | (apply run_wld; walk_at "rfl")
  | exact run_a0 | apply run_a
  | apply run_op | apply run_isi | apply run_chain | apply run_not | apply run_neg
  | apply run_tupF | apply run_tail | apply run_slT | apply run_slS | exact runo_none | apply runo_some
  | apply run_cb | exact call_lenT | exact call_lenL | apply call_lenS | exact call_max
  | (apply rp_w; walk_at "rfl") | apply rp_d
  | walk_at "call" | (apply RunV.toD; walk_at "call") | (apply RunV.toE; walk_at "call")
  | apply test_of | apply test_B | apply test_not
  | exact trivial
  | (apply run_dget1I; apply run_tab; walk_at "rfl") | (apply run_dgetI; apply run_tab; walk_at "rfl") | (apply run_dgetI; apply run_varD; walk_at "rfl")
  | walk_at "kit"
  | (show _ = some _; assumption)
  | walk_at "opD")
local macro_rules | `(tactic| walk_at "es") => `(tactic| repeat' (first | walk_at "e"))
local macro_rules | `(tactic| walk_at "k") => `(tactic| with_reducible first
  | apply test_orF | apply test_andT | apply test_notT | apply test_notF
  | apply run_andT | apply run_orF)
local macro_rules | `(tactic| walk_at "kl") => `(tactic| with_reducible first | (apply RunT.is; apply test_of) | (apply RunT.is; apply test_B) | apply RunE.is)
local macro_rules | `(tactic| walk_at "side") => `(tactic| first | assumption | (apply decide_eq_false; assumption) | (apply decide_eq_true; assumption) | (with_unfolding_all exact rfl) | (simp; done) | (apply congrArg PyData.bool; assumption) | (simp [*]; done))
local macro_rules | `(tactic| walk_at "ks") => `(tactic| ((repeat' (first | walk_at "k")); (all_goals (try walk_at "kl")); (repeat' (first | walk_at "e")); (all_goals (try walk_at "side"))))
local macro_rules | `(tactic| walk_at "le") => `(tactic| repeat' (first | exact Le.nil | apply Le.keep | apply Le.drop))

variable {P : Program} {w : World} {K : PySem.W.Frag} {mg : Str → Option Value} {base : Heap}
/-- a loop that leaves at the first one that q finds -/
theorem run_forFind {al : Type} {F : Fx} {r : PEnv} {vs : List Nat} {wi : TI} {g : TG} {t : TS} {E : Pst} (l : List al) (enc : al → PyData) (q : al → Bool) (hi : RunI K F wi r (l.map enc))
    (ht : ∀ (i : Nat) (x : al), l[i]? = some x → ∃ r1, RunG K F vs g (enc x) r r1 ∧ (q x = false → RunS K F t r1 { E with nx := fun r' => Le r r', ct := fun r' => Le r r', bk := E.nx }) ∧ (q x = true → l.find? q = some x → ∀ E', E'.rt = E.rt → RunS K F t r1 E'))
    (hd : l.find? q = none → E.nx r) : RunS K F (tFor wi g t) r E := fun s B H ok D hn hr hb hc =>
  hi s B H ok _ fun J G B1 H1 g1 hG hst w => by
    refine for_it w.walk (fun i s' Hc => ∃ Bc, EnvOk K F Bc Hc s' r ∧ G Bc Hc ∧ Same B Bc ∧ ∀ (j : Nat) x, j < i → l[j]? = some x → q x = false) ⟨B1, ok.grow g1, hG, g1.bb, fun j x hj => absurd hj (Nat.not_lt_zero _)⟩ (fun i s' Hc _ ⟨Bc, _, z, _⟩ => ⟨Bc, z⟩) (fun i x s' Hc H' hi ⟨Bc, ok', z, sb, hp⟩ y => ?_) (fun s' Hc ⟨Bc, ok', z, sb, hp⟩ => ?_)
    · obtain ⟨B', d, gr, hdi, dx⟩ := y Bc z ok'.bh
      rw [List.getElem?_map] at hdi
      obtain ⟨x', hx', rfl⟩ := Option.map_eq_some_iff.mp hdi
      obtain ⟨r1, hg, h1, h2⟩ := ht i x' hx'
      refine hg s' B' H' x (ok'.grow gr) dx _ fun s2 ok2 _ => ?_
      cases hpx : q x' with
      | false =>
        have hp' : ∀ (j : Nat) x, j < i + 1 → l[j]? = some x → q x = false := fun j z hj hz => by
          by_cases e : j = i
          · subst e
            rw [hx'] at hz
            cases hz
            exact hpx
          · exact hp j z (by omega) hz
        refine h1 hpx s2 B' H' ok2 _ (fun s3 B3 H3 r3 le ok3 sb3 => ⟨B3, ok3.weak le, hst _ _ _ _ z (gr.bb.trans sb3) ok3.bh, sb.trans (gr.bb.trans sb3), hp'⟩) (fun v s3 B3 H3 r3 q3 ok3 sb3 => hr v s3 B3 H3 r3 q3 ok3 (sb.trans (gr.bb.trans sb3)))
          (fun s3 B3 H3 r3 q3 ok3 sb3 => hn s3 B3 H3 r3 q3 ok3 (sb.trans (gr.bb.trans sb3))) (fun s3 B3 H3 r3 le ok3 sb3 => ⟨B3, ok3.weak le, hst _ _ _ _ z (gr.bb.trans sb3) ok3.bh, sb.trans (gr.bb.trans sb3), hp'⟩)
      | true =>
        have ha : l.find? q = some x' := by
          rw [List.find?_eq_some_iff_getElem]
          obtain ⟨hlt, he⟩ := List.getElem?_eq_some_iff.mp hx'
          refine ⟨hpx, i, hlt, he, fun j hj => ?_⟩
          rw [hp j l[j] hj (List.getElem?_eq_getElem (by omega))]
          rfl
        exact h2 hpx ha ⟨fun _ => False, E.rt, fun _ => False, fun _ => False⟩ rfl s2 B' H' ok2 _ (fun _ _ _ _ z => z.elim) (fun v s3 B3 H3 r3 q3 ok3 sb3 => hr v s3 B3 H3 r3 q3 ok3 (sb.trans (gr.bb.trans sb3))) (fun _ _ _ _ z => z.elim) (fun _ _ _ _ z => z.elim)
    · refine hn s' Bc Hc _ (hd ?_) ok' sb
      rw [List.find?_eq_none]
      intro x hx
      obtain ⟨j, hj⟩ := List.getElem?_of_mem hx
      rw [hp j x (by rw [List.length_map]; exact (List.getElem?_eq_some_iff.mp hj).1) hj]
      decide
/-- instances with their numbers -/
def nums (n : Nat) : List Ins → List (Nat × Ins)
  | [] => []
  | i :: l => (n, i) :: nums (n + 1) l
abbrev numD (x : Nat × Ins) : PyData := .tuple [.int (x.1 : Int), x.2.D]
theorem places_nums : ∀ (S : List Ins) (n : Nat), places n (S.map Ins.D) = (nums n S).map numD
  | [], _ => rfl
  | i :: l, n => by rw [List.map_cons, places, places_nums l (n + 1)]; rfl
theorem nums_len : ∀ (S : List Ins) (n : Nat), (nums n S).length = S.length
  | [], _ => rfl
  | i :: l, n => by rw [nums, List.length_cons, nums_len l, List.length_cons]
theorem nums_mem : ∀ {S : List Ins} {n : Nat} {x : Nat × Ins}, x ∈ nums n S → x.2 ∈ S ∧ n ≤ x.1 ∧ S[x.1 - n]? = some x.2
  | [], _, _, h => by cases h
  | i :: l, n, x, h => by
    rw [nums] at h
    cases h with
    | head => exact ⟨List.mem_cons_self, Nat.le_refl _, by simp⟩
    | tail _ h =>
      obtain ⟨a, b, c⟩ := nums_mem h
      refine ⟨List.mem_cons_of_mem _ a, by omega, ?_⟩
      rw [show x.1 - n = (x.1 - (n + 1)) + 1 by omega, List.getElem?_cons_succ]
      exact c
def optD : Option Nat → PyData
  | none => .none
  | some n => .int (n : Int)
def choose (rows : List (Nat × Ins)) : Option Nat := (rows.find? fun x => rows.all fun y => decide (y.1 = x.1) || moreB x.2 y.2).map (·.1)
def rowsRoots (S : List Ins) (t n : Str) (l : List Str) : List (Nat × Ins) := ((nums 0 S).filter fun x => decide (x.2.t = t)).filter fun x => decide (x.2.r = n) && limsFit x.2.l l
abbrev SetL (S : List Ins) : Prop := S.length ≤ 100 ∧ ∀ i ∈ S, LimsOk i.l
abbrev SpChosenOf (K : PySem.W.Frag) : Sp := sp4 K (.d setD) (.d PyData.str) (.d PyData.str) (.d (fun (l : List Str) => .list (l.map .str))) (fun S _ _ _ => SetL S) (fun S t n l B u => Dp K B u (optD (choose (rowsRoots S t n l))))
theorem ok_chosen_of (T : Tb K mg) : FnOk P w K mg base CX0 2 T.chosen_of.f T.chosen_of.fd ["instances", "trait", "root", "roots"] (SpChosenOf K) :=
  have G_fits_roots := ok_fits_roots (P := P) (w := w) (base := base) T
  have G_more_special := ok_more_special (P := P) (w := w) (base := base) T
  fn4 T.chosen_of.F sc_chosen_of fun cdv A outer s H E hr => ⟨_, (pss_cons (ps_setLc (i := 4) (own := [("number", 5), ("one", 6)]) rfl sc_chosen_of.nd rfl rfl (sw_true rfl rfl rfl (by decide +kernel)) (pi_enumT rfl T.g_enumerate (pa_cons (vr 0 rfl (.inl rfl)) pa_nil)) (blkOk_by (own := [("number", 5), ("one", 6)]) (N := ["instances", "trait", "root", "roots", "rows", "number", "one", "other", "two"]) (sc := defScope s_chosen_of) (by decide +kernel)) (fun _ _ _ _ _ => (pg_tupK K rfl (n := 2) rfl (pgs_cons (pg_name (i := 5) sc_chosen_of.nd rfl (.inl rfl)) (pgs_cons (pg_name (i := 6) sc_chosen_of.nd rfl (.inl rfl)) pgs_nil)))) (fun _ _ _ _ _ => (pts_one (pt_cmpR (op_eqK K rfl (hu64 hr)) (pe_ix (ix_K K rfl) (vr 6 rfl (.inl rfl)) pe_int (fun _ _ => rfl)) (vr 1 rfl (.inr (.inl rfl))) (nomark _)))) (fun _ _ _ _ _ => (pe_tupF (pa_cons (vr 5 rfl (.inl rfl)) (pa_cons (vr 6 rfl (.inl rfl)) pa_nil))))) (pss_cons (ps_setLc (i := 4) (own := [("number", 5), ("one", 6)]) rfl sc_chosen_of.nd rfl rfl (sw_true rfl rfl rfl (by decide +kernel)) (pi_any (vr 4 rfl (.inl rfl))) (blkOk_by (own := [("number", 5), ("one", 6)]) (N := ["instances", "trait", "root", "roots", "rows", "number", "one", "other", "two"]) (sc := defScope s_chosen_of) (by decide +kernel)) (fun _ _ _ _ _ => (pg_tupK K rfl (n := 2) rfl (pgs_cons (pg_name (i := 5) sc_chosen_of.nd rfl (.inl rfl)) (pgs_cons (pg_name (i := 6) sc_chosen_of.nd rfl (.inl rfl)) pgs_nil)))) (fun _ _ _ _ _ => (pts_one (pt_val (pe_call G_fits_roots (hr.mono (by omega)) rfl T.fits_roots.m T.fits_roots.F.kp T.fits_roots.b .nil pass0 (pa_cons (vr 6 rfl (.inl rfl)) (pa_cons (vr 2 rfl (.inr (.inl rfl))) (pa_cons (vr 3 rfl (.inr (.inl rfl))) pa_nil))))))) (fun _ _ _ _ _ => (pe_tupF (pa_cons (vr 5 rfl (.inl rfl)) (pa_cons (vr 6 rfl (.inl rfl)) pa_nil))))) (pss_cons (ps_for PassesOwn.never rfl (pi_any (vr 4 rfl (.inl rfl))) (pg_tupK K rfl (n := 2) rfl (pgs_cons (pg_name (i := 5) sc_chosen_of.nd rfl (.inr rfl)) (pgs_cons (pg_name (i := 6) sc_chosen_of.nd rfl (.inr rfl)) pgs_nil))) (pss_one (ps_if (pt_val (pe_callB (cr_all rfl) rfl T.g_all (by decide +kernel) (pa_cons (pe_lc (own := [("other", 7), ("two", 8)]) rfl sc_chosen_of.nd (pi_any (vr 4 rfl (.inl rfl))) (blkOk_by (own := [("other", 7), ("two", 8)]) (N := ["instances", "trait", "root", "roots", "rows", "number", "one", "other", "two"]) (sc := defScope s_chosen_of) (by decide +kernel)) (fun _ _ _ _ _ => (pg_tupK K rfl (n := 2) rfl (pgs_cons (pg_name (i := 7) sc_chosen_of.nd rfl (.inl rfl)) (pgs_cons (pg_name (i := 8) sc_chosen_of.nd rfl (.inl rfl)) pgs_nil)))) (fun _ _ _ _ _ => pts_nil) (fun _ _ _ _ _ => (pe_or (pe_cmpR (op_eqK K rfl (hu64 hr)) (vr 7 rfl (.inl rfl)) (vr 5 rfl (.inr (.inl rfl))) (nomark _)) (pe_one (pe_call G_more_special (hr.mono (by omega)) rfl T.more_special.m T.more_special.F.kp T.more_special.b .nil pass0 (pa_cons (vr 6 rfl (.inr (.inl rfl))) (pa_cons (vr 8 rfl (.inl rfl)) pa_nil))))))) pa_nil))) (pss_one (ps_ret (vr 5 rfl (.inr (.inl rfl))))) pss_nil))) (pss_one (ps_ret pe_non))))), fun S t n l ⟨hl, hS⟩ F hF => by
    walk_at "go"
    have hnl : (nums 0 S).length ≤ 100 := by rw [nums_len]; exact hl
    refine run_asgq (RunL.toE (run_lc (vs := [5, 6]) (nums 0 S) numD (fun x => decide (x.2.t = t)) numD ?_ (by omega) fun k x hx => ⟨_, rung2, ?_, fun _ => ?_⟩)) ?_
    · rw [← places_nums]
      exact runi_enum (run_a (run_var rfl) run_a0)
    · exact test_op (run_op (run_var rfl) run_int (opd_ixT rfl)) (run_var rfl) opb_eqS
    · refine run_tupF (run_a (run_var rfl) (run_a (run_var rfl) run_a0)) (by simp)
    have hl1 : ((nums 0 S).filter fun x => decide (x.2.t = t)).length ≤ 100 := Nat.le_trans (List.length_filter_le _ _) hnl
    refine run_asgq (RunL.toE (run_lc (vs := [5, 6]) ((nums 0 S).filter fun x => decide (x.2.t = t)) numD (fun x => decide (x.2.r = n) && limsFit x.2.l l) numD (runi_lst (run_var rfl)) (by omega) fun k x hx => ⟨_, rung2, ?_, fun _ => ?_⟩)) ?_
    · refine test_B (RunV.toD (run_call3 (x1 := x.2) (x2 := n) (x3 := l) (rp_d (run_var rfl)) (rp_d (run_var rfl)) (rp_d (run_var rfl)) ?_))
      exact (hS x.2 (nums_mem (List.mem_filter.mp (List.mem_of_getElem? hx)).1).1).1
    · refine run_tupF (run_a (run_var rfl) (run_a (run_var rfl) run_a0)) (by simp)
    have hl2 : (rowsRoots S t n l).length ≤ 100 := Nat.le_trans (List.length_filter_le _ _) hl1
    have hm : ∀ x ∈ rowsRoots S t n l, x.2 ∈ S := fun x hx => (nums_mem (List.mem_filter.mp (List.mem_filter.mp hx).1).1).1
    refine run_seq (run_forFind (vs := [5, 6]) (rowsRoots S t n l) numD (fun x => (rowsRoots S t n l).all fun y => decide (y.1 = x.1) || moreB x.2 y.2) (runi_lst (run_var rfl)) (fun k x hx => ?_) (fun hn => ?_))
    · refine ⟨_, rung2, fun hp => run_iffF (RunT.is ?_ hp) (run_next (by walk_at "le")), fun hp hf E' hE => run_iffT (RunT.is ?_ hp) (run_ret (run_var rfl) fun B v q => ?_)⟩
      case refine_3 =>
        rw [hE]
        show Dp K B v (optD (choose (rowsRoots S t n l)))
        unfold choose
        rw [hf]
        exact q
      all_goals
        refine test_B (run_all (l := rowsRoots S t n l) (p := fun y => decide (y.1 = x.1) || moreB x.2 y.2) (RunL.toE (run_lc0 (vs := [7, 8]) (rowsRoots S t n l) numD _ (runi_lst (run_var rfl)) (by omega) fun k y hy => ⟨_, rung2, ?_⟩)))
        refine run_or (k := decide (y.1 = x.1)) (RunE.is (run_opB (a := .int (y.1 : Int)) (b := .int (x.1 : Int)) (run_var rfl) (run_var rfl) opb_eqI) (by simp [Int.ofNat_inj])) fun _ => RunV.toD (run_call2 (x1 := x.2) (x2 := y.2) (rp_d (run_var rfl)) (rp_d (run_var rfl)) ?_)
        exact ⟨hS _ (hm x (List.mem_of_getElem? hx)), hS _ (hm y (List.mem_of_getElem? hy))⟩
    · refine run_ret run_non fun B v q => ?_
      show Dp K B v (optD (choose (rowsRoots S t n l)))
      unfold choose
      rw [hn]
      exact q⟩
/-! ### looking -/
def fitRows (S : List Ins) (t : Str) (s : Srt) : List (Nat × Ins) := ((nums 0 S).filter fun x => decide (x.2.t = t)).filter fun x => fitB x.2 s
theorem fitRows_mem {S : List Ins} {t : Str} {s : Srt} {x : Nat × Ins} (h : x ∈ fitRows S t s) : x.2 ∈ S ∧ x.2.t = t ∧ fitB x.2 s = true ∧ S[x.1]? = some x.2 := by
  obtain ⟨h1, h2⟩ := List.mem_filter.mp h
  obtain ⟨h3, h4⟩ := List.mem_filter.mp h1
  obtain ⟨h5, _, h6⟩ := nums_mem h3
  exact ⟨h5, of_decide_eq_true h4, h2, h6⟩
theorem fitRows_len {S : List Ins} {t : Str} {s : Srt} : (fitRows S t s).length ≤ S.length := Nat.le_trans (List.length_filter_le _ _) (Nat.le_trans (List.length_filter_le _ _) (Nat.le_of_eq (nums_len S 0)))
abbrev SpFitting (K : PySem.W.Frag) : Sp := sp3 K (.d setD) (.d PyData.str) (.d Srt.D) (fun S _ _ => S.length ≤ 100) (fun S t s B u => IsLst K ((fitRows S t s).map numD) B u)
theorem ok_fitting (T : Tb K mg) : FnOk P w K mg base CX0 2 T.fitting.f T.fitting.fd ["instances", "trait", "sort"] (SpFitting K) :=
  have G_does_fit := ok_does_fit (P := P) (w := w) (base := base) T
  fn3 T.fitting.F sc_fitting fun cdv A outer s H E hr => ⟨_, (pss_cons (ps_setLc (i := 3) (own := [("number", 4), ("one", 5)]) rfl sc_fitting.nd rfl rfl (sw_true rfl rfl rfl (by decide +kernel)) (pi_enumT rfl T.g_enumerate (pa_cons (vr 0 rfl (.inl rfl)) pa_nil)) (blkOk_by (own := [("number", 4), ("one", 5)]) (N := ["instances", "trait", "sort", "rows", "number", "one"]) (sc := defScope s_fitting) (by decide +kernel)) (fun _ _ _ _ _ => (pg_tupK K rfl (n := 2) rfl (pgs_cons (pg_name (i := 4) sc_fitting.nd rfl (.inl rfl)) (pgs_cons (pg_name (i := 5) sc_fitting.nd rfl (.inl rfl)) pgs_nil)))) (fun _ _ _ _ _ => (pts_one (pt_cmpR (op_eqK K rfl (hu64 hr)) (pe_ix (ix_K K rfl) (vr 5 rfl (.inl rfl)) pe_int (fun _ _ => rfl)) (vr 1 rfl (.inr (.inl rfl))) (nomark _)))) (fun _ _ _ _ _ => (pe_tupF (pa_cons (vr 4 rfl (.inl rfl)) (pa_cons (vr 5 rfl (.inl rfl)) pa_nil))))) (pss_one (ps_ret (pe_lc (own := [("number", 4), ("one", 5)]) rfl sc_fitting.nd (pi_any (vr 3 rfl (.inl rfl))) (blkOk_by (own := [("number", 4), ("one", 5)]) (N := ["instances", "trait", "sort", "rows", "number", "one"]) (sc := defScope s_fitting) (by decide +kernel)) (fun _ _ _ _ _ => (pg_tupK K rfl (n := 2) rfl (pgs_cons (pg_name (i := 4) sc_fitting.nd rfl (.inl rfl)) (pgs_cons (pg_name (i := 5) sc_fitting.nd rfl (.inl rfl)) pgs_nil)))) (fun _ _ _ _ _ => (pts_one (pt_val (pe_call G_does_fit (hr.mono (by omega)) rfl T.does_fit.m T.does_fit.F.kp T.does_fit.b .nil pass0 (pa_cons (vr 5 rfl (.inl rfl)) (pa_cons (vr 2 rfl (.inr (.inl rfl))) pa_nil)))))) (fun _ _ _ _ _ => (pe_tupF (pa_cons (vr 4 rfl (.inl rfl)) (pa_cons (vr 5 rfl (.inl rfl)) pa_nil)))))))), fun S t so hl F hF => by
    walk_at "go"
    have hnl : (nums 0 S).length ≤ 100 := by rw [nums_len]; exact hl
    refine run_asgq (RunL.toE (run_lc (vs := [4, 5]) (nums 0 S) numD (fun x => decide (x.2.t = t)) numD ?_ (by omega) fun k x hx => ⟨_, rung2, ?_, fun _ => ?_⟩)) ?_
    · rw [← places_nums]
      exact runi_enum (run_a (run_var rfl) run_a0)
    · exact test_op (run_op (run_var rfl) run_int (opd_ixT rfl)) (run_var rfl) opb_eqS
    · refine run_tupF (run_a (run_var rfl) (run_a (run_var rfl) run_a0)) (by simp)
    have hl1 : ((nums 0 S).filter fun x => decide (x.2.t = t)).length ≤ 100 := Nat.le_trans (List.length_filter_le _ _) hnl
    refine run_retV (RunL.toV (run_lc (vs := [4, 5]) ((nums 0 S).filter fun x : Nat × Ins => decide (x.2.t = t)) numD (fun x => fitB x.2 so) numD (runi_lst (run_var rfl)) (by omega) fun k x hx => ⟨_, rung2, ?_, fun _ => ?_⟩)) fun B v q => q
    · exact test_B (RunV.toD (run_call2 (x1 := x.2) (x2 := so) (rp_d (run_var rfl)) (rp_d (run_var rfl)) trivial))
    · refine run_tupF (run_a (run_var rfl) (run_a (run_var rfl) run_a0)) (by simp)⟩
/-- what a set and a sort have to be -/
structure Rd (S : List Ins) (s : Srt) : Prop where
  len : S.length ≤ 8
  ok : ∃ w : Wd, WPre w ∧ (∀ i ∈ S, InsOk w i) ∧ SrtOk w s ∧ ∀ c ∈ w.cs, NmOk c.n
theorem Rd.part {S : List Ins} {s p : Srt} (h : Rd S s) (hp : p ∈ s.ps) : Rd S p := ⟨h.len, let ⟨w, a, b, c, d⟩ := h.ok; ⟨w, a, b, c.part hp, d⟩⟩
theorem Rd.get {S : List Ins} {s : Srt} {t : Str} {x : Nat × Ins} {a : Ask} (h : Rd S s) (hx : x ∈ fitRows S t s) (ha : a ∈ x.2.a) : ∃ p, s.ps[a.p]? = some p := by
  obtain ⟨w, h1, h2, h3, _⟩ := h.ok
  obtain ⟨q1, q2, q3, _⟩ := fitRows_mem hx
  have hi := h2 _ q1
  have hr : x.2.r = s.n := by
    unfold fitB at q3
    rw [Bool.and_eq_true] at q3
    exact of_decide_eq_true q3.1
  have e1 := h1.tab _ hi.r
  have e2 := h1.tab _ h3.root
  simp only at e1 e2
  rw [hr, e2] at e1
  have e3 : (s.ps.length : Int) = (x.2.l.length : Int) := by simpa using e1
  have e4 := hi.a.part a ha
  exact ⟨_, List.getElem?_eq_getElem (by omega)⟩
theorem Rd.lims {S : List Ins} {s : Srt} (h : Rd S s) : SetL S := ⟨by have := h.len; omega, fun i hi => by
  obtain ⟨w, h1, h2, h3, h4⟩ := h.ok
  refine ⟨by have := (h2 i hi).l2; omega, fun x hx => ?_⟩
  obtain ⟨k, hk⟩ := (h2 i hi).l x hx
  exact h4 _ hk⟩
theorem Rd.asks {S : List Ins} {s : Srt} {i : Ins} (h : Rd S s) (hi : i ∈ S) : i.a.length ≤ 3 := by
  obtain ⟨w, h1, h2, h3, _⟩ := h.ok
  exact (h2 i hi).a.len
/-- sort[part + 1] -/
theorem part_at {s p : Srt} {n : Nat} (h : s.ps[n]? = some p) : atI (PyData.str s.n :: s.ps.map Srt.T) ((n : Int) + 1) = some p.T := atI_nat (i := n + 1) (by rw [List.getElem?_cons_succ, List.getElem?_map, h]; rfl)
def standsN : Nat → List Ins → Str → Srt → Bool
  | 0, _, _, _ => false
  | d + 1, S, t, s => (fitRows S t s).any fun x => x.2.a.all fun a => match s.ps[a.p]? with
    | some p => standsN d S a.t p
    | none => false
abbrev SpStands (K : PySem.W.Frag) (d : Nat) : Sp := sp3 K (.d setD) (.d PyData.str) (.d Srt.D) (fun S t s => Rd S s ∧ s.dep ≤ d) (fun S t s B u => Dp K B u (.bool (standsN d S t s)))
theorem Srt.dep_pos (s : Srt) : 0 < s.dep := by cases s <;> simp [Srt.dep]
theorem find_any {al : Type} {l : List al} {q : al → Bool} : (l.find? q = none → l.any q = false) ∧ ∀ x, l.find? q = some x → l.any q = true := by
  refine ⟨fun h => ?_, fun x h => ?_⟩
  · rw [← Bool.not_eq_true, List.any_eq_true]
    intro ⟨x, hx, hq⟩
    exact List.find?_eq_none.mp h x hx hq
  · rw [List.any_eq_true]
    exact ⟨x, List.mem_of_find?_eq_some h, List.find?_some h⟩
theorem ok_stands (T : Tb K mg) : ∀ d, FnOk P w K mg base CX0 (d + 2) T.stands.f T.stands.fd ["instances", "trait", "sort"] (SpStands K d)
  | 0 => ⟨fun _ _ _ _ ⟨_, _, _, _, _, _, x, _, _, _, _, _, ⟨_, z⟩, _⟩ => absurd z (Nat.not_le_of_gt (Srt.dep_pos x)), fun _ _ _ _ _ _ _ _ _ _ _ _ _ ⟨_, _, _, _, _, _, x, _, _, _, _, _, ⟨_, z⟩, _⟩ => absurd z (Nat.not_le_of_gt (Srt.dep_pos x))⟩
  | d + 1 =>
  have G_fitting := ok_fitting (P := P) (w := w) (base := base) T
  have G_stands := ok_stands T d
  fn3 T.stands.F sc_stands fun cdv A outer s H E hr => ⟨_, (pss_cons (ps_for PassesOwn.never rfl (pi_any (pe_call G_fitting (hr.mono (by omega)) rfl T.fitting.m T.fitting.F.kp T.fitting.b .nil pass0 (pa_cons (vr 0 rfl (.inr (.inl rfl))) (pa_cons (vr 1 rfl (.inl rfl)) (pa_cons (vr 2 rfl (.inr (.inl rfl))) pa_nil))))) (pg_tupK K rfl (n := 2) rfl (pgs_cons (pg_name (i := 3) sc_stands.nd rfl (.inl rfl)) (pgs_cons (pg_name (i := 4) sc_stands.nd rfl (.inl rfl)) pgs_nil))) (pss_one (ps_if (pt_val (pe_callB (cr_all rfl) rfl T.g_all (by decide +kernel) (pa_cons (pe_lc (own := [("other", 5), ("part", 6)]) rfl sc_stands.nd (pi_any (pe_ix (ix_K K rfl) (vr 4 rfl (.inl rfl)) pe_int (fun _ _ => rfl))) (blkOk_by (own := [("other", 5), ("part", 6)]) (N := ["instances", "trait", "sort", "number", "one", "other", "part"]) (sc := defScope s_stands) (by decide +kernel)) (fun _ _ _ _ _ => (pg_tupK K rfl (n := 2) rfl (pgs_cons (pg_name (i := 5) sc_stands.nd rfl (.inl rfl)) (pgs_cons (pg_name (i := 6) sc_stands.nd rfl (.inl rfl)) pgs_nil)))) (fun _ _ _ _ _ => pts_nil) (fun _ _ _ _ _ => (pe_call G_stands (hr.mono (by omega)) rfl T.stands.m T.stands.F.kp T.stands.b .nil pass0 (pa_cons (vr 0 rfl (.inr (.inl rfl))) (pa_cons (vr 5 rfl (.inl rfl)) (pa_cons (pe_ix (ix_K K rfl) (vr 2 rfl (.inr (.inl rfl))) (pe_op (op_plusK K rfl) (vr 6 rfl (.inl rfl)) pe_int) (fun _ _ => rfl)) pa_nil)))))) pa_nil))) (pss_one (ps_ret pe_bl)) pss_nil))) (pss_one (ps_ret pe_bl))), fun S t so ⟨hR, hd⟩ F hF => by
    walk_at "go"
    have hS8 := hR.len
    have hfa := find_any (l := fitRows S t so) (q := fun x => x.2.a.all fun a => match so.ps[a.p]? with
      | some p => standsN d S a.t p
      | none => false)
    refine run_seq (run_forFind (vs := [3, 4]) (fitRows S t so) numD (fun x => x.2.a.all fun a => match so.ps[a.p]? with
      | some p => standsN d S a.t p
      | none => false) (runi_lst (RunV.toE (run_call3 (x1 := S) (x2 := t) (x3 := so) (rp_d (run_var rfl)) (rp_d (run_var rfl)) (rp_d (run_var rfl)) (by omega)))) (fun k x hx => ?_) (fun hn => ?_))
    · have hxm := List.mem_of_getElem? hx
      refine ⟨_, rung2, fun hp => run_iffF (RunT.is ?_ hp) (run_next (by walk_at "le")), fun hp hf E' hE => run_iffT (RunT.is ?_ hp) (run_ret run_bl fun B v q => ?_)⟩
      case refine_3 =>
        rw [hE]
        show Dp K B v (.bool (standsN (d + 1) S t so))
        rw [standsN, hfa.2 x hf]
        exact q
      all_goals
        refine test_B (run_all (l := x.2.a) (p := fun a => match so.ps[a.p]? with
          | some p => standsN d S a.t p
          | none => false) (RunL.toE (run_lc0 (vs := [5, 6]) x.2.a Ask.D _ (runi_tup (run_op (run_var rfl) run_int (opd_ixT rfl))) (by have := hR.asks (fitRows_mem hxm).1; omega) fun k a ha => ⟨_, rung2, ?_⟩)))
        obtain ⟨p, hp⟩ := hR.get hxm (List.mem_of_getElem? ha)
        simp only [hp]
        have hpm := List.mem_of_getElem? hp
        refine RunV.toD (run_call3 (x1 := S) (x2 := a.t) (x3 := p) (rp_d (run_var rfl)) (rp_d (run_var rfl)) (rp_d ?_) ⟨hR.part hpm, by have := Srt.dep_lt hpm; omega⟩)
        rw [← Srt.T_eq p]
        exact run_op (run_var rfl) (run_op (run_var rfl) run_int opd_plusI) (opd_ixT (part_at hp))
    · refine run_ret run_bl fun B v q => ?_
      show Dp K B v (.bool (standsN (d + 1) S t so))
      rw [standsN, hfa.1 hn]
      exact q⟩
end Ts
set_option Elab.async false
set_option linter.all false
set_option maxRecDepth 100000
set_option maxHeartbeats 2000000
namespace Ts
open PySem PySem.Spec PyProof.Rows L2
local macro_rules | `(tactic| walk_at "go") => `(tactic| simp only [cxK, cxK2, List.map_cons, List.map_nil, List.length_cons, List.length_nil, List.replicate, List.cons_append, List.nil_append, List.append_nil, Pk.ent, Nat.reduceAdd, Nat.reduceSub])
local macro_rules | `(tactic| walk_at "rfl") => `(tactic| with_unfolding_all exact rfl)
local macro_rules | `(tactic| walk_at "op") => `(tactic| with_reducible first
  | exact opd_plusI | exact opd_sub | exact opd_mod (by decide) | exact opb_eqI | exact opb_neI | exact opb_eqS | exact opb_neS | exact opb_eqB | exact opb_neB
  | exact opb_leI | exact opb_gtI | exact opb_geI | exact opb_ltI | exact opb_ltS | exact opb_isN | exact opb_notN | exact opb_inSgF | exact opb_inSLF | exact opb_inSTF | exact opb_inSLT | exact opb_inSTT | exact opb_inS2F | exact opb_inS2T
  | (apply opd_ixT; try walk_at "ix") | (apply opd_ixL; try walk_at "ix") | (apply opd_ixS; rotate_left; try walk_at "ix"; rotate_right) | apply opd_plusT | apply opd_mul | apply opd_div | apply opd_pow)
local macro_rules | `(tactic| walk_at "opD") => `(tactic| with_reducible first
  | walk_at "op" | (apply OpB.toD; walk_at "op"))
local macro_rules | `(tactic| walk_at "call") => `(tactic| with_reducible first
  | apply run_call1 | apply run_call2 | apply run_call3 | apply run_call4 | apply run_call5)
local macro_rules | `(tactic| walk_at "kit") => `(tactic| with_unfolding_all first | exact kit_ii | exact kit_ib | exact kit_ss | exact kit_st | exact kit_ts | exact kit_tt | exact kit_it | exact kit_ns)
local macro_rules | `(tactic| walk_at "ix") => `(tactic| first | exact atI_zero | exact atI_one | assumption | (with_unfolding_all exact rfl))
local macro_rules | `(tactic| walk_at "e") => `(tactic| with_reducible first
  | exact run_int | exact run_str | exact run_bl | exact run_non
  | (apply run_var; walk_at "rfl") | (apply run_wld; walk_at "rfl")
  | exact run_a0 | apply run_a
  | apply run_op | apply run_isi | apply run_chain | apply run_not | apply run_neg
  | apply run_tupF | apply run_tail | apply run_slT | apply run_slS | exact runo_none | apply runo_some
  | apply run_cb | exact call_lenT | exact call_lenL | apply call_lenS | exact call_max
  | (apply rp_w; walk_at "rfl") | apply rp_d
  | walk_at "call" | (apply RunV.toD; walk_at "call") | (apply RunV.toE; walk_at "call")
  | apply test_of | apply test_B | apply test_not
  | exact trivial
  | (apply run_dget1I; apply run_tab; walk_at "rfl") | (apply run_dgetI; apply run_tab; walk_at "rfl") | (apply run_dgetI; apply run_varD; walk_at "rfl")
  | walk_at "kit"
  | (show _ = some _; assumption)
  | walk_at "opD")
local macro_rules | `(tactic| walk_at "es") => `(tactic| repeat' (first | walk_at "e"))
local macro_rules | `(tactic| walk_at "k") => `(tactic| with_reducible first
  | apply test_orF | apply test_andT | apply test_notT | apply test_notF
  | apply run_andT | apply run_orF)
local macro_rules | `(tactic| walk_at "kl") => `(tactic| with_reducible first | (apply RunT.is; apply test_of) | (apply RunT.is; apply test_B) | apply RunE.is)
local macro_rules | `(tactic| walk_at "side") => `(tactic| first | assumption | (apply decide_eq_false; assumption) | (apply decide_eq_true; assumption) | (with_unfolding_all exact rfl) | (simp; done) | (apply congrArg PyData.bool; assumption) | (simp [*]; done))
local macro_rules | `(tactic| walk_at "ks") => `(tactic| ((repeat' (first | walk_at "k")); (all_goals (try walk_at "kl")); (repeat' (first | walk_at "e")); (all_goals (try walk_at "side"))))
local macro_rules | `(tactic| walk_at "le") => `(tactic| repeat' (first | exact Le.nil | apply Le.keep | apply Le.drop))

variable {P : Program} {w : World} {K : PySem.W.Frag} {mg : Str → Option Value} {base : Heap}
/-! ### the shapes -/
theorem ShA.nil {m : Nat} : ∀ x ∈ ([] : List PyData), Sh m x := fun x h => by cases h
theorem ShA.cons {m : Nat} {a : PyData} {l : List PyData} (h : Sh m a) (hl : ∀ x ∈ l, Sh m x) : ∀ x ∈ a :: l, Sh m x := fun x hx => by
  cases hx with
  | head => exact h
  | tail _ hx => exact hl x hx
theorem ShA.map {al : Type} {m : Nat} {f : al → PyData} {l : List al} (h : ∀ x ∈ l, Sh m (f x)) : ∀ x ∈ l.map f, Sh m x := fun x hx => by
  obtain ⟨y, hy, rfl⟩ := List.mem_map.mp hx
  exact h y hy
theorem nmOk_of {x : Str} (h : PyData.strOk x = true) : NmOk x := h
theorem Rk.sh {w : Wd} (hw : TsPre w) {n : Int} : ∀ {x : Rk}, RkOk w n x → Sh (x.dep + 1) x.D
  | _, .num _ => .tup (ShA.cons (.str (by decide +kernel)) (ShA.cons .int ShA.nil))
  | _, .mark => .tup (ShA.cons (.str (by decide +kernel)) ShA.nil)
  | _, @RkOk.plus _ _ a b h1 h2 => (show Sh (max a.dep b.dep + 1 + 1) (.tuple [.str "plus", a.D, b.D]) from .tup (ShA.cons (.str (by decide +kernel)) (ShA.cons ((Rk.sh hw h1).mono (by omega)) (ShA.cons ((Rk.sh hw h2).mono (by omega)) ShA.nil))))
  | _, @RkOk.times _ _ a b h1 h2 => (show Sh (max a.dep b.dep + 1 + 1) (.tuple [.str "times", a.D, b.D]) from .tup (ShA.cons (.str (by decide +kernel)) (ShA.cons ((Rk.sh hw h1).mono (by omega)) (ShA.cons ((Rk.sh hw h2).mono (by omega)) ShA.nil))))
  | _, .tell _ ⟨z, hz, e, _⟩ => .tup (ShA.cons (.str (by decide +kernel)) (ShA.cons (.str (by rw [← e]; exact (hw.lay z hz).1)) (ShA.cons .int ShA.nil)))
theorem InsOk.sh {w : Wd} (hw : WPre w) (hc : ∀ c ∈ w.cs, NmOk c.n) {i : Ins} (h : InsOk w i) : Sh 12 i.D := by
  have hn : ∀ t, t ∈ w.ts.map Trt.n → NmOk t := fun t ht => by
    obtain ⟨z, hz, rfl⟩ := List.mem_map.mp ht
    exact (hw.ts.lay z hz).1
  obtain ⟨it, ir, il, ia, ib⟩ := i
  refine .tup (ShA.cons (.str (hn _ h.t)) (ShA.cons (.str (hc _ h.r)) (ShA.cons ?_ (ShA.cons ?_ (ShA.cons ?_ ShA.nil)))))
  · refine (Sh.tup (m := 1) (ShA.map fun x hx => ?_)).mono (by decide)
    cases x with
    | none => exact .non
    | some x =>
      obtain ⟨k, hk⟩ := h.l x hx
      exact .str (hc _ hk)
  · exact (Sh.tup (m := 1) (ShA.map fun a ha => .tup (ShA.cons (.str (hn _ (h.a.name a ha))) (ShA.cons .int ShA.nil)))).mono (by decide)
  · cases h.b with
    | @tell x _ hx => exact (Rk.sh hw.ts hx.1).mono (by have := hx.2.1; omega)
    | @make x l _ hx _ hl =>
      refine (Sh.tup (m := 10) (ShA.cons (.str (by decide +kernel)) (ShA.cons ((Rk.sh hw.ts hx.1).mono (by have := hx.2.1; omega)) (ShA.map fun y hy => ?_))))
      obtain ⟨h1, z, hz, e, _⟩ := hl y hy
      exact (Sh.tup (m := 8) (ShA.cons (.str (by rw [← e]; exact (hw.ts.lay z hz).1)) (ShA.cons ((Rk.sh hw.ts h1.1).mono (by have := h1.2.1; omega)) ShA.nil))).mono (by decide)
theorem Rd.sh {S : List Ins} {s : Srt} (h : Rd S s) {i : Ins} (hi : i ∈ S) : Sh 12 i.D := by
  obtain ⟨w, a, b, c, d⟩ := h.ok
  exact (b i hi).sh a d
theorem Srt.shT : ∀ {w : Wd} {s : Srt}, (∀ c ∈ w.cs, NmOk c.n) → SrtOk w s → Sh s.dep s.T
  | w, .c0 n, hc, h => by
    cases h with
    | c0 a => exact .tup (m := 0) (ShA.cons (.str (hc _ a)) ShA.nil)
  | w, .c1 n x, hc, h => by
    cases h with
    | c1 a b => exact .tup (ShA.cons (.str (hc _ a)) (ShA.cons (Srt.shT hc b) ShA.nil))
  | w, .c2 n x y, hc, h => by
    cases h with
    | c2 a b c => exact .tup (m := max x.dep y.dep) (ShA.cons (.str (hc _ a)) (ShA.cons ((Srt.shT hc b).mono (by omega)) (ShA.cons ((Srt.shT hc c).mono (by omega)) ShA.nil)))
theorem Rd.shS {S : List Ins} {s : Srt} (h : Rd S s) : Sh s.dep s.T := by
  obtain ⟨w, a, b, c, d⟩ := h.ok
  exact Srt.shT d c
/-! ### dead ends -/
def endsN : Nat → List Ins → Str → Srt → List (Str × Srt)
  | 0, _, _, _ => []
  | d + 1, S, t, s => if (fitRows S t s).isEmpty then [(t, s)] else (fitRows S t s).flatMap fun x => x.2.a.flatMap fun a => match s.ps[a.p]? with
    | some p => endsN d S a.t p
    | none => []
abbrev aD (x : Str × Srt) : PyData := .tuple [.str x.1, x.2.T]
theorem flat_len {al be : Type} {f : al → List be} {n : Nat} : ∀ {l : List al}, (∀ x ∈ l, (f x).length ≤ n) → (l.flatMap f).length ≤ l.length * n
  | [], _ => by simp
  | x :: l, h => by
    rw [List.flatMap_cons, List.length_append, List.length_cons, Nat.add_mul, Nat.one_mul]
    have := h x List.mem_cons_self
    have := flat_len fun y hy => h y (List.mem_cons_of_mem x hy)
    omega
theorem ends_len : ∀ {d : Nat} {S : List Ins} {t : Str} {s : Srt}, Rd S s → (endsN d S t s).length ≤ 24 ^ s.dep
  | 0, S, t, s, _ => by simp [endsN]
  | d + 1, S, t, s, h => by
    have hp := Srt.dep_pos s
    unfold endsN
    split
    · simp
      exact Nat.pos_of_ne_zero (by simp)
    · have h8 : (fitRows S t s).length ≤ 8 := Nat.le_trans fitRows_len h.len
      have : ∀ x ∈ fitRows S t s, (x.2.a.flatMap fun a => match s.ps[a.p]? with
        | some p => endsN d S a.t p
        | none => []).length ≤ 3 * 24 ^ (s.dep - 1) := fun x hx => by
        have h3 := h.asks (fitRows_mem hx).1
        refine Nat.le_trans (flat_len (n := 24 ^ (s.dep - 1)) fun a ha => ?_) (Nat.mul_le_mul_right _ h3)
        obtain ⟨p, hp⟩ := h.get hx ha
        rw [hp]
        have hpm := List.mem_of_getElem? hp
        have hd := Srt.dep_lt hpm
        exact Nat.le_trans (ends_len (h.part hpm)) (Nat.pow_le_pow_right (by decide) (by omega))
      refine Nat.le_trans (flat_len this) ?_
      have e : 24 ^ s.dep = 24 * 24 ^ (s.dep - 1) := by
        rw [← Nat.pow_succ']
        congr 1
        omega
      rw [e, ← Nat.mul_assoc]
      exact Nat.mul_le_mul_right _ (by omega)
theorem take_flat {al be : Type} {f : al → List be} {l : List al} {i : Nat} {x : al} (h : l[i]? = some x) : (l.take (i + 1)).flatMap f = (l.take i).flatMap f ++ f x := by
  rw [List.take_add_one, h, List.flatMap_append]
  simp
theorem run_retL {F : Fx} {r : PEnv} {E : Pst} {ds : List PyData} {i : Nat} (hi : r[i]? = some (some (.own ds))) (q : ∀ B v, IsLst K ds B v → E.rt (r.set i (some (.d (.list ds)))) B v) : RunS K F (tRet (tVar i)) r E := fun s B H ok D hn hr hb hc => by
  obtain ⟨p, xs, b1, b4, b5, a, sb, ok'⟩ := ok.freeze hi
  exact ⟨_, a, hr _ s _ H _ (q (L2.upd B p (.lst xs)) (.ref p) ⟨p, xs, rfl, upd_same, dpAll_mono sb _ _ b5⟩) ok' sb⟩
abbrev SpEnds (K : PySem.W.Frag) (d : Nat) : Sp := sp3 K (.d setD) (.d PyData.str) (.d Srt.D) (fun S t s => Rd S s ∧ s.dep ≤ d ∧ s.dep ≤ 4) (fun S t s B u => IsLst K ((endsN d S t s).map aD) B u)
theorem ok_ends_from (T : Tb K mg) : ∀ d, FnOk P w K mg base CX0 (d + 2) T.ends_from.f T.ends_from.fd ["instances", "trait", "sort"] (SpEnds K d)
  | 0 => ⟨fun _ _ _ _ ⟨_, _, _, _, _, _, x, _, _, _, _, _, ⟨_, z, _⟩, _⟩ => absurd z (Nat.not_le_of_gt (Srt.dep_pos x)), fun _ _ _ _ _ _ _ _ _ _ _ _ _ ⟨_, _, _, _, _, _, x, _, _, _, _, _, ⟨_, z, _⟩, _⟩ => absurd z (Nat.not_le_of_gt (Srt.dep_pos x))⟩
  | d + 1 =>
  have G_fitting := ok_fitting (P := P) (w := w) (base := base) T
  have G_ends_from := ok_ends_from T d
  fn3 T.ends_from.F sc_ends_from fun cdv A outer s H E hr => ⟨_, (pss_cons (ps_set (i := 3) sc_ends_from.nd rfl (.inl rfl) (pe_call G_fitting (hr.mono (by omega)) rfl T.fitting.m T.fitting.F.kp T.fitting.b .nil pass0 (pa_cons (vr 0 rfl (.inl rfl)) (pa_cons (vr 1 rfl (.inl rfl)) (pa_cons (vr 2 rfl (.inl rfl)) pa_nil))))) (pss_cons (ps_if (pt_cmpR (op_eqK K rfl (hu64 hr)) (vr 3 rfl (.inl rfl)) (pe_lst pa_nil) (nomark _)) (pss_one (ps_ret (pe_lst (pa_cons (pe_tupF (pa_cons (vr 1 rfl (.inl rfl)) (pa_cons (vr 2 rfl (.inl rfl)) pa_nil))) pa_nil)))) pss_nil) (pss_cons (ps_set (i := 4) sc_ends_from.nd rfl (.inl rfl) (pe_lst pa_nil)) (pss_cons (ps_for PassesOwn.never rfl (pi_any (vr 3 rfl (.inl rfl))) (pg_tupK K rfl (n := 2) rfl (pgs_cons (pg_name (i := 5) sc_ends_from.nd rfl (.inl rfl)) (pgs_cons (pg_name (i := 6) sc_ends_from.nd rfl (.inl rfl)) pgs_nil))) (pss_one (ps_for PassesOwn.never rfl (pi_any (pe_ix (ix_K K rfl) (vr 6 rfl (.inl rfl)) pe_int (fun _ _ => rfl))) (pg_tupK K rfl (n := 2) rfl (pgs_cons (pg_name (i := 7) sc_ends_from.nd rfl (.inl rfl)) (pgs_cons (pg_name (i := 8) sc_ends_from.nd rfl (.inl rfl)) pgs_nil))) (pss_one (ps_expr (pe_bm PySem.F.plainAttrs_list PySem.F.slot_list_extend PySem.F.type_list_extend mt_extend (vr 4 rfl (.inl rfl)) (pa_cons (pe_call G_ends_from (hr.mono (by omega)) rfl T.ends_from.m T.ends_from.F.kp T.ends_from.b .nil pass0 (pa_cons (vr 0 rfl (.inl rfl)) (pa_cons (vr 7 rfl (.inl rfl)) (pa_cons (pe_ix (ix_K K rfl) (vr 2 rfl (.inl rfl)) (pe_op (op_plusK K rfl) (vr 8 rfl (.inl rfl)) pe_int) (fun _ _ => rfl)) pa_nil)))) pa_nil))))))) (pss_one (ps_ret (vr 4 rfl (.inl rfl)))))))), fun S t so ⟨hR, hd, hd4⟩ F hF => by
    walk_at "go"
    have hS8 := hR.len
    refine run_asgq (RunV.toE (run_call3 (x1 := S) (x2 := t) (x3 := so) (rp_d (run_var rfl)) (rp_d (run_var rfl)) (rp_d (run_var rfl)) (by omega))) ?_
    have hsh : Sh 14 (.list ((fitRows S t so).map numD)) := .lst (ShA.map fun x hx => .tup (ShA.cons .int (ShA.cons (hR.sh (fitRows_mem hx).1) ShA.nil)))
    refine run_seq (run_iff (k := (fitRows S t so).isEmpty) (RunT.is (test_op (run_var rfl) (RunL.toE (run_lst run_a0 (by simp))) (opb_eqD hsh.shaped (Sh.lst (m := 0) ShA.nil).shaped)) ?_) (fun hk => ?_) (fun hk => run_next ?_))
    · cases fitRows S t so <;> simp [PyData.eqv, PyData.eqvAll]
    · refine run_retV (RunL.toV (run_lst (run_a (run_tupF (run_a (run_var rfl) (run_a (run_var rfl) run_a0)) (by simp)) run_a0) (by simp))) fun B v q => ?_
      show IsLst K ((endsN (d + 1) S t so).map aD) B v
      have e : aD (t, so) = .tuple [.str t, so.D] := by
        show PyData.tuple [.str t, so.T] = _
        rw [Srt.T_eq]
      rw [endsN, if_pos hk, List.map_cons, List.map_nil, e]
      exact q
    · refine run_asgLq (run_lst run_a0 (by simp)) ?_
      have hends : endsN (d + 1) S t so = (fitRows S t so).flatMap fun x => x.2.a.flatMap fun a => match so.ps[a.p]? with
        | some p => endsN d S a.t p
        | none => [] := by rw [endsN, if_neg (by rw [hk]; decide)]
      have hlen := ends_len (d := d + 1) (t := t) hR
      rw [hends] at hlen
      have h24 : 24 ^ so.dep ≤ 1000000 := Nat.le_trans (Nat.pow_le_pow_right (by decide) hd4) (by decide)
      rw [← hends] at hlen
      let g : Ask → List (Str × Srt) := fun a => match so.ps[a.p]? with
        | some p => endsN d S a.t p
        | none => []
      let f : Nat × Ins → List (Str × Srt) := fun x => x.2.a.flatMap g
      have hends' : endsN (d + 1) S t so = (fitRows S t so).flatMap f := hends
      refine run_seq (run_forM (vs := [5, 6]) (fitRows S t so) numD (fun i => [some (.d (setD S)), none, some (.d so.D), none, some (.own ((((fitRows S t so).take i).flatMap f).map aD)), none, none, none, none]) (runi_lst (run_var rfl)) (by walk_at "le") (fun i x hx => ⟨_, rung2, ?_⟩) ?_)
      · have hxm := List.mem_of_getElem? hx
        have hfl : (((fitRows S t so).take i).flatMap f).length + (f x).length ≤ 1000000 := by
          rw [← List.length_append, ← take_flat hx]
          refine Nat.le_trans ?_ (Nat.le_trans hlen h24)
          rw [hends']
          conv => rhs; rw [← List.take_append_drop (i + 1) (fitRows S t so), List.flatMap_append, List.length_append]
          omega
        refine run_forM (vs := [7, 8]) x.2.a Ask.D (fun j => [some (.d (setD S)), none, some (.d so.D), none, some (.own ((((fitRows S t so).take i).flatMap f ++ (x.2.a.take j).flatMap g).map aD)), none, none, none, none]) (runi_tup (run_op (run_var rfl) run_int (opd_ixT rfl))) ?_ (fun j a ha => ⟨_, rung2, ?_⟩) ?_
        · simp only [List.take_zero, List.flatMap_nil, List.append_nil]
          walk_at "le"
        · obtain ⟨p, hp⟩ := hR.get hxm (List.mem_of_getElem? ha)
          have hpm := List.mem_of_getElem? hp
          have hg : g a = endsN d S a.t p := by
            show (match so.ps[a.p]? with
              | some p => endsN d S a.t p
              | none => []) = _
            rw [hp]
          have hdp := Srt.dep_lt hpm
          have hgl : ((x.2.a.take j).flatMap g).length + (g a).length ≤ (f x).length := by
            rw [← List.length_append, ← take_flat ha]
            show _ ≤ (x.2.a.flatMap g).length
            conv => rhs; rw [← List.take_append_drop (j + 1) x.2.a, List.flatMap_append, List.length_append]
            omega
          refine run_extend (i := 4) (ds := ((((fitRows S t so).take i).flatMap f ++ (x.2.a.take j).flatMap g).map aD)) (es := (endsN d S a.t p).map aD) rfl ?_ (RunV.toR (run_call3 (x1 := S) (x2 := a.t) (x3 := p) (rp_d (run_var rfl)) (rp_d (run_var rfl)) (rp_d ?_) ⟨hR.part hpm, by omega, by omega⟩)) ?_
          · rw [List.length_map, List.length_map, List.length_append, ← hg]
            omega
          · rw [← Srt.T_eq p]
            exact run_op (run_var rfl) (run_op (run_var rfl) run_int opd_plusI) (opd_ixT (part_at hp))
          · have e : ((((fitRows S t so).take i).flatMap f ++ (x.2.a.take (j + 1)).flatMap g).map aD) = ((((fitRows S t so).take i).flatMap f ++ (x.2.a.take j).flatMap g).map aD) ++ (endsN d S a.t p).map aD := by
              rw [take_flat ha, ← hg, ← List.append_assoc, List.map_append]
            simp only [e]
            walk_at "le"
        · have e : ((fitRows S t so).take (i + 1)).flatMap f = ((fitRows S t so).take i).flatMap f ++ (x.2.a.take x.2.a.length).flatMap g := by
            rw [take_flat hx, List.take_length]
          simp only [e]
          walk_at "le"
      · refine run_retL rfl fun B v q => ?_
        rw [List.take_length] at q
        show IsLst K ((endsN (d + 1) S t so).map aD) B v
        rw [hends']
        exact q⟩
abbrev SpHolds (K : PySem.W.Frag) : Sp := sp4 K (.w Wd.D) (.d setD) (.d PyData.str) (.d Srt.D) (fun w S t s => AskOk w S t s ∧ Rd S s) (fun w S t s B u => Dp K B u (.bool (standsN 8 S t s)))
theorem ok_holds (T : Tb K mg) : FnOk P w K mg base CX0 14 T.holds.f T.holds.fd ["world", "instances", "trait", "sort"] (SpHolds K) :=
  have G_check_ask := ok_check_ask (P := P) (w := w) (base := base) T
  have G_stands := ok_stands (P := P) (w := w) (base := base) T 8
  fn4 T.holds.F sc_holds fun cdv A outer s H E hr => ⟨_, (pss_cons (ps_expr (pe_call G_check_ask (hr.mono (by omega)) rfl T.check_ask.m T.check_ask.F.kp T.check_ask.b .nil pass0 (pa_cons (vr 0 rfl (.inl rfl)) (pa_cons (vr 1 rfl (.inl rfl)) (pa_cons (vr 2 rfl (.inl rfl)) (pa_cons (vr 3 rfl (.inl rfl)) pa_nil)))))) (pss_one (ps_ret (pe_call G_stands (hr.mono (by omega)) rfl T.stands.m T.stands.F.kp T.stands.b .nil pass0 (pa_cons (vr 1 rfl (.inl rfl)) (pa_cons (vr 2 rfl (.inl rfl)) (pa_cons (vr 3 rfl (.inl rfl)) pa_nil))))))), fun w S t so ⟨hok, hR⟩ F hF => by
    walk_at "go"
    refine run_seq (run_dropN (run_call4 (x1 := w) (x2 := S) (x3 := t) (x4 := so) (rp_w rfl) (rp_d (run_var rfl)) (rp_d (run_var rfl)) (rp_d (run_var rfl)) hok) ?_)
    refine run_ret (RunV.toD (run_call3 (x1 := S) (x2 := t) (x3 := so) (rp_d (run_var rfl)) (rp_d (run_var rfl)) (rp_d (run_var rfl)) ?_)) fun B v q => q
    exact ⟨hR, by have := hok.d; omega⟩⟩
end Ts
set_option Elab.async false
set_option linter.all false
set_option maxRecDepth 100000
set_option maxHeartbeats 2000000
namespace Ts
open PySem PySem.Spec PyProof.Rows L2
local macro_rules | `(tactic| walk_at "go") => `(tactic| simp only [cxK, cxK2, List.map_cons, List.map_nil, List.length_cons, List.length_nil, List.replicate, List.cons_append, List.nil_append, List.append_nil, Pk.ent, Nat.reduceAdd, Nat.reduceSub])
local macro_rules | `(tactic| walk_at "rfl") => `(tactic| with_unfolding_all exact rfl)
local macro_rules | `(tactic| walk_at "op") => `(tactic| with_reducible first
  | exact opd_plusI | exact opd_sub | exact opd_mod (by decide) | exact opb_eqI | exact opb_neI | exact opb_eqS | exact opb_neS | exact opb_eqB | exact opb_neB
  | exact opb_leI | exact opb_gtI | exact opb_geI | exact opb_ltI | exact opb_ltS | exact opb_isN | exact opb_notN | exact opb_inSgF | exact opb_inSLF | exact opb_inSTF | exact opb_inSLT | exact opb_inSTT | exact opb_inS2F | exact opb_inS2T
  | (apply opd_ixT; try walk_at "ix") | (apply opd_ixL; try walk_at "ix") | (apply opd_ixS; rotate_left; try walk_at "ix"; rotate_right) | apply opd_plusT | apply opd_mul | apply opd_div | apply opd_pow)
local macro_rules | `(tactic| walk_at "opD") => `(tactic| with_reducible first
  | walk_at "op" | (apply OpB.toD; walk_at "op"))
local macro_rules | `(tactic| walk_at "call") => `(tactic| with_reducible first
  | apply run_call1 | apply run_call2 | apply run_call3 | apply run_call4 | apply run_call5)
local macro_rules | `(tactic| walk_at "kit") => `(tactic| with_unfolding_all first | exact kit_ii | exact kit_ib | exact kit_ss | exact kit_st | exact kit_ts | exact kit_tt | exact kit_it | exact kit_ns)
local macro_rules | `(tactic| walk_at "ix") => `(tactic| first | exact atI_zero | exact atI_one | assumption | (with_unfolding_all exact rfl))
local macro_rules | `(tactic| walk_at "e") => `(tactic| with_reducible first
  | exact run_int | exact run_str | exact run_bl | exact run_non
  | (apply run_var; walk_at "rfl") | (apply run_wld; walk_at "rfl")
  | exact run_a0 | apply run_a
  | apply run_op | apply run_isi | apply run_chain | apply run_not | apply run_neg
  | apply run_tupF | apply run_tail | apply run_slT | apply run_slS | exact runo_none | apply runo_some
  | apply run_cb | exact call_lenT | exact call_lenL | apply call_lenS | exact call_max
  | (apply rp_w; walk_at "rfl") | apply rp_d
  | walk_at "call" | (apply RunV.toD; walk_at "call") | (apply RunV.toE; walk_at "call")
  | apply test_of | apply test_B | apply test_not
  | exact trivial
  | (apply run_dget1I; apply run_tab; walk_at "rfl") | (apply run_dgetI; apply run_tab; walk_at "rfl") | (apply run_dgetI; apply run_varD; walk_at "rfl")
  | walk_at "kit"
  | (show _ = some _; assumption)
  | walk_at "opD")
local macro_rules | `(tactic| walk_at "es") => `(tactic| repeat' (first | walk_at "e"))
local macro_rules | `(tactic| walk_at "k") => `(tactic| with_reducible first
  | apply test_orF | apply test_andT | apply test_notT | apply test_notF
  | apply run_andT | apply run_orF)
local macro_rules | `(tactic| walk_at "kl") => `(tactic| with_reducible first | (apply RunT.is; apply test_of) | (apply RunT.is; apply test_B) | apply RunE.is)
local macro_rules | `(tactic| walk_at "side") => `(tactic| first | assumption | (apply decide_eq_false; assumption) | (apply decide_eq_true; assumption) | (with_unfolding_all exact rfl) | (simp; done) | (apply congrArg PyData.bool; assumption) | (simp [*]; done))
local macro_rules | `(tactic| walk_at "ks") => `(tactic| ((repeat' (first | walk_at "k")); (all_goals (try walk_at "kl")); (repeat' (first | walk_at "e")); (all_goals (try walk_at "side"))))
local macro_rules | `(tactic| walk_at "le") => `(tactic| repeat' (first | exact Le.nil | apply Le.keep | apply Le.drop))

variable {P : Program} {w : World} {K : PySem.W.Frag} {mg : Str → Option Value} {base : Heap}
theorem ends_mem : ∀ {d : Nat} {S : List Ins} {t : Str} {s : Srt}, Rd S s → NmOk t → ∀ x ∈ endsN d S t s, Rd S x.2 ∧ NmOk x.1 ∧ x.2.dep ≤ s.dep ∧ ((fitRows S t s).isEmpty = false → x.2.dep < s.dep)
  | 0, S, t, s, _, _, x, h => by simp [endsN] at h
  | d + 1, S, t, s, hR, ht, x, h => by
    unfold endsN at h
    by_cases he : (fitRows S t s).isEmpty = true
    · rw [if_pos he] at h
      have : x = (t, s) := by simpa using h
      subst this
      exact ⟨hR, ht, Nat.le_refl _, fun z => by rw [he] at z; cases z⟩
    · rw [if_neg he] at h
      obtain ⟨y, hy, h⟩ := List.mem_flatMap.mp h
      obtain ⟨a, ha, h⟩ := List.mem_flatMap.mp h
      obtain ⟨p, hp⟩ := hR.get hy ha
      rw [hp] at h
      have hpm := List.mem_of_getElem? hp
      have hd := Srt.dep_lt hpm
      have hat : NmOk a.t := by
        obtain ⟨w, h1, h2, _⟩ := hR.ok
        obtain ⟨z, hz, e⟩ := List.mem_map.mp ((h2 _ (fitRows_mem hy).1).a.name a ha)
        rw [← e]
        exact (h1.ts.lay z hz).1
      obtain ⟨q1, q2, q3, _⟩ := ends_mem (hR.part hpm) hat x h
      exact ⟨q1, q2, by omega, fun _ => by omega⟩
theorem Srt.alike : ∀ s t : Srt, PySem.W.alike s.T t.T = true
  | .c0 n, t => by cases t <;> simp [Srt.T, PySem.W.alike, PySem.W.alikeAll]
  | .c1 n a, t => by cases t <;> simp [Srt.T, PySem.W.alike, PySem.W.alikeAll, Srt.alike a]
  | .c2 n a b, t => by cases t <;> simp [Srt.T, PySem.W.alike, PySem.W.alikeAll, Srt.alike a, Srt.alike b]
abbrev aLe (a b : Str × Srt) : Bool := PySem.W.dataLe false id (aD a) (aD b)
def ddS (acc : List (Str × Srt)) (x : Str × Srt) : List (Str × Srt) := if (acc.any fun z => PyData.eqv (aD z) (aD x)) = true then acc else acc ++ [x]
def dd (l : List (Str × Srt)) : List (Str × Srt) := l.foldl ddS []
theorem dd_take {l : List (Str × Srt)} {i : Nat} {x : Str × Srt} (h : l[i]? = some x) : dd (l.take (i + 1)) = ddS (dd (l.take i)) x := by
  unfold dd
  rw [List.take_add_one, h, List.foldl_append]
  rfl
theorem ddS_sub {acc : List (Str × Srt)} {x y : Str × Srt} (h : y ∈ ddS acc x) : y ∈ acc ∨ y = x := by
  unfold ddS at h
  split at h
  · exact .inl h
  · simpa using h
theorem dd_sub {l : List (Str × Srt)} : ∀ (i : Nat) y, y ∈ dd (l.take i) → y ∈ l
  | 0, y, h => by simp [dd] at h
  | i + 1, y, h => by
    cases hx : l[i]? with
    | none =>
      rw [List.take_add_one, hx] at h
      exact dd_sub i y (by simpa using h)
    | some x =>
      rw [dd_take hx] at h
      rcases ddS_sub h with h | h
      · exact dd_sub i y h
      · subst h
        exact List.mem_of_getElem? hx
theorem dd_len {l : List (Str × Srt)} : ∀ i : Nat, (dd (l.take i)).length ≤ i
  | 0 => by simp [dd]
  | i + 1 => by
    cases hx : l[i]? with
    | none =>
      rw [List.take_add_one, hx]
      have := dd_len (l := l) i
      simp
      omega
    | some x =>
      rw [dd_take hx]
      have := dd_len (l := l) i
      unfold ddS
      split
      · omega
      · simp
        omega
def deadL (S : List Ins) (t : Str) (s : Srt) : List (Str × Srt) := dd ((endsN 8 S t s).mergeSort aLe)
abbrev SpDead (K : PySem.W.Frag) : Sp := sp4 K (.w Wd.D) (.d setD) (.d PyData.str) (.d Srt.D) (fun w S t s => AskOk w S t s ∧ Rd S s ∧ NmOk t ∧ s.dep ≤ 4) (fun w S t s B u => Dp K B u (.tuple ((deadL S t s).map aD)))
theorem ok_dead_ends (T : Tb K mg) : FnOk P w K mg base CX0 14 T.dead_ends.f T.dead_ends.fd ["world", "instances", "trait", "sort"] (SpDead K) :=
  have G_check_ask := ok_check_ask (P := P) (w := w) (base := base) T
  have G_ends_from := ok_ends_from (P := P) (w := w) (base := base) T 8
  fn4 T.dead_ends.F sc_dead_ends fun cdv A outer s H E hr => ⟨_, (pss_cons (ps_expr (pe_call G_check_ask (hr.mono (by omega)) rfl T.check_ask.m T.check_ask.F.kp T.check_ask.b .nil pass0 (pa_cons (vr 0 rfl (.inl rfl)) (pa_cons (vr 1 rfl (.inl rfl)) (pa_cons (vr 2 rfl (.inl rfl)) (pa_cons (vr 3 rfl (.inl rfl)) pa_nil)))))) (pss_cons (ps_set (i := 4) sc_dead_ends.nd rfl (.inl rfl) (pe_lst pa_nil)) (pss_cons (ps_for PassesOwn.never rfl (pi_any (pe_callB (cr_sortD (hu64 hr)) rfl T.g_sorted (by decide +kernel) (pa_cons (pe_call G_ends_from (hr.mono (by omega)) rfl T.ends_from.m T.ends_from.F.kp T.ends_from.b .nil pass0 (pa_cons (vr 1 rfl (.inl rfl)) (pa_cons (vr 2 rfl (.inl rfl)) (pa_cons (vr 3 rfl (.inl rfl)) pa_nil)))) pa_nil))) (pg_name (i := 5) sc_dead_ends.nd rfl (.inl rfl)) (pss_one (ps_if (pt_cmpR (op_ninK K rfl (hu65 hr)) (vr 5 rfl (.inl rfl)) (vr 4 rfl (.inl rfl)) (by rfl)) (pss_one (ps_expr (pe_bm PySem.F.plainAttrs_list PySem.F.slot_list_append PySem.F.type_list_append mt_append (vr 4 rfl (.inl rfl)) (pa_cons (vr 5 rfl (.inl rfl)) pa_nil)))) pss_nil))) (pss_one (ps_ret (pe_callTy call_tupA rfl T.g_tuple (by decide +kernel) (pa_cons (vr 4 rfl (.inl rfl)) pa_nil))))))), fun w S t so ⟨hok, hR, ht, hd4⟩ F hF => by
    walk_at "go"
    refine run_seq (run_dropN (run_call4 (x1 := w) (x2 := S) (x3 := t) (x4 := so) (rp_w rfl) (rp_d (run_var rfl)) (rp_d (run_var rfl)) (rp_d (run_var rfl)) hok) ?_)
    refine run_asgLq (run_lst run_a0 (by simp)) ?_
    have hm := ends_mem (d := 8) hR ht
    have hlen := ends_len (d := 8) (t := t) hR
    have h24 : 24 ^ so.dep ≤ 24 ^ 4 := Nat.pow_le_pow_right (by decide) hd4
    have hsort : ((endsN 8 S t so).map aD).mergeSort (PySem.W.dataLe false id) = ((endsN 8 S t so).mergeSort aLe).map aD := (List.map_mergeSort (r := aLe) (s := PySem.W.dataLe false id) (f := aD) (l := endsN 8 S t so) fun a _ b _ => rfl).symm
    have hshd : ∀ x ∈ endsN 8 S t so, Sh 5 (aD x) := fun x hx => by
      obtain ⟨q1, q2, q3, _⟩ := hm x hx
      exact .tup (ShA.cons (.str q2) (ShA.cons (q1.shS.mono (by omega)) ShA.nil))
    let l := (endsN 8 S t so).mergeSort aLe
    have hlm : ∀ x ∈ l, x ∈ endsN 8 S t so := fun x hx => List.mem_mergeSort.mp hx
    have hll : l.length ≤ 24 ^ 4 := by rw [List.length_mergeSort]; omega
    refine run_seq (run_forM (vs := [5]) l aD (fun i => [none, none, none, none, some (.own ((dd (l.take i)).map aD)), none]) (runi_lst (RunL.toE (RunL.is (run_sorted (run_a (RunV.toE (run_call3 (x1 := S) (x2 := t) (x3 := so) (rp_d (run_var rfl)) (rp_d (run_var rfl)) (rp_d (run_var rfl)) ⟨hR, by omega, hd4⟩)) run_a0) ?_ ?_ ?_) hsort))) (by walk_at "le") (fun i x hx => ⟨_, rung_name (by decide), ?_⟩) ?_)
    · exact PySem.W.AllAlike.of fun a b => by simp [PySem.W.alike, PySem.W.alikeAll, Srt.alike]
    · exact PySem.W.Sortable.tuples fun b => ⟨_, _, rfl⟩
    · intro y hy
      obtain ⟨x, hx, rfl⟩ := List.mem_map.mp hy
      have := (hshd x hx).dep
      omega
    · have hxm := hshd x (hlm x (List.mem_of_getElem? hx))
      have hacc : Sh 6 (.list ((dd (l.take i)).map aD)) := .lst (ShA.map fun y hy => hshd y (hlm y (dd_sub i y hy)))
      have hil := (List.getElem?_eq_some_iff.mp hx).1
      refine run_iff (k := !((dd (l.take i)).map aD).any fun z => PyData.eqv z (aD x)) ?_ (fun hk => ?_) (fun hk => run_next ?_)
      · refine test_borrow 4 rfl ?_
        exact test_op (run_var rfl) (run_var rfl) (opb_inDT hxm.shaped hacc.shaped)
      · refine run_append (i := 4) (ds := (dd (l.take i)).map aD) (d := aD x) rfl ?_ (run_var rfl) ?_
        · have := dd_len (l := l) i
          rw [List.length_map]
          omega
        · have e : (dd (l.take (i + 1))).map aD = (dd (l.take i)).map aD ++ [aD x] := by
            rw [dd_take hx]
            unfold ddS
            rw [if_neg (by rw [List.any_map] at hk; simpa using hk), List.map_append]
            rfl
          simp only [e]
          walk_at "le"
      · have e : (dd (l.take (i + 1))).map aD = (dd (l.take i)).map aD := by
          rw [dd_take hx]
          unfold ddS
          rw [if_pos (by rw [List.any_map] at hk; simpa using hk)]
        simp only [e]
        walk_at "le"
    · refine run_freeze 4 rfl ?_
      rw [List.take_length]
      exact run_ret (run_tupL (run_a (run_var rfl) run_a0)) fun B v q => q⟩
/-! ### overlaps -/
structure InP (i : Ins) : Prop where
  l : LimsOk i.l
  t : NmOk i.t
  r : NmOk i.r
theorem InsOk.inp {w : Wd} (hw : WPre w) (hc : ∀ c ∈ w.cs, NmOk c.n) {i : Ins} (h : InsOk w i) : InP i := ⟨⟨by have := h.l2; omega, fun x hx => by
  obtain ⟨k, hk⟩ := h.l x hx
  exact hc _ hk⟩, by
  obtain ⟨z, hz, e⟩ := List.mem_map.mp h.t
  rw [← e]
  exact (hw.ts.lay z hz).1, hc _ h.r⟩
theorem Rd.inp {S : List Ins} {s : Srt} (h : Rd S s) : ∀ i ∈ S, InP i := fun i hi => by
  obtain ⟨w, a, b, c, d⟩ := h.ok
  exact (b i hi).inp a d
def limsOver : List (Option Str) → List (Option Str) → Bool
  | x :: xs, y :: ys => (decide (x = none) || (decide (y = none) || decide (x = y))) && limsOver xs ys
  | _, _ => true
theorem limsOver_zip : ∀ (ls ps : List (Option Str)), limsOver ls ps = (ls.zip ps).all fun x => decide (x.1 = none) || (decide (x.2 = none) || decide (x.1 = x.2))
  | [], ps => by simp [limsOver]
  | l :: ls, [] => by simp [limsOver]
  | l :: ls, p :: ps => by
    rw [limsOver, limsOver_zip ls ps, List.zip_cons_cons, List.all_cons]
def overB (i j : Ins) : Bool := (decide (i.t = j.t) && decide (i.r = j.r)) && limsOver i.l j.l
abbrev SpOver (K : PySem.W.Frag) : Sp := sp2 K (.d Ins.D) (.d Ins.D) (fun i j => InP i ∧ InP j) (fun i j B u => Dp K B u (.bool (overB i j)))
theorem not_true_b {b : Bool} (h : (!b) = true) : b = false := by cases b <;> first | rfl | cases h
theorem not_false_b {b : Bool} (h : (!b) = false) : b = true := by cases b <;> first | rfl | cases h
theorem ok_do_overlap (T : Tb K mg) : FnOk P w K mg base CX0 1 T.do_overlap.f T.do_overlap.fd ["one", "other"] (SpOver K) :=
  fn2 T.do_overlap.F sc_do_overlap fun cdv A outer s H E hr => ⟨_, (pss_cons (ps_if (pt_cmpR (op_neK K rfl (hu64 hr)) (pe_slice (sl_K K rfl) (vr 0 rfl (.inl rfl)) po_none (po_some pe_int)) (pe_slice (sl_K K rfl) (vr 1 rfl (.inl rfl)) po_none (po_some pe_int)) (nomark _)) (pss_one (ps_ret pe_bl)) pss_nil) (pss_one (ps_ret (pe_callB (cr_all rfl) rfl T.g_all (by decide +kernel) (pa_cons (pe_lc (own := [("first", 2), ("second", 3)]) rfl sc_do_overlap.nd (pi_zipX rfl T.g_zip (pa_cons (pe_ix (ix_K K rfl) (vr 0 rfl (.inl rfl)) pe_int (fun _ _ => rfl)) (pa_cons (pe_ix (ix_K K rfl) (vr 1 rfl (.inl rfl)) pe_int (fun _ _ => rfl)) pa_nil))) (blkOk_by (own := [("first", 2), ("second", 3)]) (N := ["one", "other", "first", "second"]) (sc := defScope s_do_overlap) (by decide +kernel)) (fun _ _ _ _ _ => (pg_tupK K rfl (n := 2) rfl (pgs_cons (pg_name (i := 2) sc_do_overlap.nd rfl (.inl rfl)) (pgs_cons (pg_name (i := 3) sc_do_overlap.nd rfl (.inl rfl)) pgs_nil)))) (fun _ _ _ _ _ => pts_nil) (fun _ _ _ _ _ => (pe_or (pe_cmpR op_isNn (vr 2 rfl (.inl rfl)) pe_non (nomark _)) (pe_or (pe_cmpR op_isNn (vr 3 rfl (.inl rfl)) pe_non (nomark _)) (pe_one (pe_cmpR (op_eqK K rfl (hu64 hr)) (vr 2 rfl (.inl rfl)) (vr 3 rfl (.inl rfl)) (nomark _))))))) pa_nil))))), fun i j ⟨hi, hj⟩ F hF => by
    walk_at "go"
    have h2 : ∀ i : Ins, InP i → Sh 1 (.tuple [.str i.t, .str i.r]) := fun i h => .tup (ShA.cons (.str h.t) (ShA.cons (.str h.r) ShA.nil))
    refine run_seq (run_iff (k := !(decide (i.t = j.t) && decide (i.r = j.r))) (RunT.is (test_op (a := .tuple [.str i.t, .str i.r]) (b := .tuple [.str j.t, .str j.r]) ((run_slT (run_var rfl) runo_none (runo_some run_int)).is rfl) ((run_slT (run_var rfl) runo_none (runo_some run_int)).is rfl) (opb_neD (h2 i hi).shaped (h2 j hj).shaped)) ?_) (fun hk => ?_) (fun hk => run_next ?_))
    · by_cases h1 : i.t = j.t <;> by_cases h3 : i.r = j.r <;> simp [PyData.eqv, PyData.eqvAll, h1, h3]
    · refine run_ret run_bl fun B v q => ?_
      show Dp K B v (.bool (overB i j))
      unfold overB
      rw [show (decide (i.t = j.t) && decide (i.r = j.r)) = false from not_true_b hk]
      exact q
    · unfold overB
      rw [show (decide (i.t = j.t) && decide (i.r = j.r)) = true from not_false_b hk, limsOver_zip, Bool.true_and]
      refine run_ret (run_all (l := i.l.zip j.l) (p := fun x => decide (x.1 = none) || (decide (x.2 = none) || decide (x.1 = x.2))) (RunL.toE (run_lc0 (vs := [2, 3]) (i.l.zip j.l) pairLL _ ?_ ?_ fun k x hx => ⟨_, rung2, ?_⟩))) fun B v q => q
      · rw [← zip_ll]
        refine runi_zipTT ?_
        walk_at "es"
      · rw [List.length_zip]
        have := hi.l.1
        omega
      · exact run_or (run_opB (a := limD x.1) (run_var rfl) run_non opb_isL) fun _ => run_or (run_opB (a := limD x.2) (run_var rfl) run_non opb_isL) fun _ => run_opB (a := limD x.1) (b := limD x.2) (run_var rfl) (run_var rfl) opb_eqL⟩
def pairsOf (q : Ins → Ins → Bool) (S : List Ins) : List (Nat × Nat) := (nums 0 S).flatMap fun x => ((nums 0 S).filter fun y => decide (x.1 < y.1) && q x.2 y.2).map fun y => (x.1, y.1)
abbrev pD (x : Nat × Nat) : PyData := .tuple [.int (x.1 : Int), .int (x.2 : Int)]
theorem take_filter {al be : Type} {p : al → Bool} {f : al → be} {l : List al} {i : Nat} {x : al} (h : l[i]? = some x) : ((l.take (i + 1)).filter p).map f = ((l.take i).filter p).map f ++ if p x = true then [f x] else [] := by
  rw [List.take_add_one, h, List.filter_append, List.map_append]
  congr 1
  show List.map f (List.filter p [x]) = _
  by_cases hp : p x = true
  · rw [List.filter_cons_of_pos hp, if_pos hp] <;> rfl
  · rw [List.filter_cons_of_neg hp, if_neg hp] <;> rfl
/-- all pairs of a set that q finds -/
theorem run_pairs {F : Fx} {q : Ins → Ins → Bool} {t : TS} (S : List Ins) (h100 : S.length ≤ 100)
    (hb : ∀ x ∈ nums 0 S, ∀ y ∈ nums 0 S, ∀ acc : List (Nat × Nat), acc.length ≤ 20000 → ∀ E : Pst, (∀ r', Le [some (.d (setD S)), some (.own ((acc ++ if (decide (x.1 < y.1) && q x.2 y.2) = true then [(x.1, y.1)] else []).map pD)), some (.d (.int (x.1 : Int))), some (.d x.2.D), none, none] r' → E.nx r') →
      RunS K F t [some (.d (setD S)), some (.own (acc.map pD)), some (.d (.int (x.1 : Int))), some (.d x.2.D), some (.d (.int (y.1 : Int))), some (.d y.2.D)] E) :
    RunS K F (tSeq (tAsg (tLst tNil) (gName 1)) (tSeq (tFor (iEnumT K (tCons (tVar 0) tNil)) (gTup K 2 (gCons (gName 2) (gCons (gName 3) gNil))) (tFor (iEnumT K (tCons (tVar 0) tNil)) (gTup K 2 (gCons (gName 4) (gCons (gName 5) gNil))) t)) (tRet (tVar 1))))
      [some (.d (setD S)), none, none, none, none, none] (ends0 fun B u => IsLst K ((pairsOf q S).map pD) B u) := by
  have hn : (nums 0 S).length ≤ 100 := by rw [nums_len]; exact h100
  refine run_asgLq (run_lst run_a0 (by simp)) ?_
  let f : Nat × Ins → List (Nat × Nat) := fun x => ((nums 0 S).filter fun y => decide (x.1 < y.1) && q x.2 y.2).map fun y => (x.1, y.1)
  have hf : ∀ x, (f x).length ≤ 100 := fun x => by
    show (((nums 0 S).filter fun y => decide (x.1 < y.1) && q x.2 y.2).map fun y => (x.1, y.1)).length ≤ 100
    rw [List.length_map]
    exact Nat.le_trans (List.length_filter_le _ _) hn
  refine run_seq (run_forM (vs := [2, 3]) (nums 0 S) numD (fun i => [some (.d (setD S)), some (.own ((((nums 0 S).take i).flatMap f).map pD)), none, none, none, none]) ?_ (by walk_at "le") (fun i x hx => ⟨_, rung2, ?_⟩) ?_)
  · rw [← places_nums]
    exact runi_enum (run_a (run_var rfl) run_a0)
  · have hxm := List.mem_of_getElem? hx
    have hout : (((nums 0 S).take i).flatMap f).length ≤ 10000 := by
      refine Nat.le_trans (flat_len fun y _ => hf y) ?_
      have : ((nums 0 S).take i).length ≤ 100 := by rw [List.length_take]; omega
      omega
    refine run_forM (vs := [4, 5]) (nums 0 S) numD (fun j => [some (.d (setD S)), some (.own ((((nums 0 S).take i).flatMap f ++ (((nums 0 S).take j).filter fun y => decide (x.1 < y.1) && q x.2 y.2).map fun y => (x.1, y.1)).map pD)), some (.d (.int (x.1 : Int))), some (.d x.2.D), none, none]) ?_ ?_ (fun j y hy => ⟨_, rung2, ?_⟩) ?_
    · rw [← places_nums]
      exact runi_enum (run_a (run_var rfl) run_a0)
    · simp only [List.take_zero, List.filter_nil, List.map_nil, List.append_nil]
      walk_at "le"
    · refine hb x hxm y (List.mem_of_getElem? hy) _ ?_ _ fun r' le => ?_
      · rw [List.length_append, List.length_map]
        have : (((nums 0 S).take j).filter fun y => decide (x.1 < y.1) && q x.2 y.2).length ≤ 100 := Nat.le_trans (List.length_filter_le _ _) (by rw [List.length_take]; omega)
        omega
      · show Le _ r'
        rw [take_filter hy, ← List.append_assoc]
        exact le
    · have e : ((nums 0 S).take (i + 1)).flatMap f = ((nums 0 S).take i).flatMap f ++ (((nums 0 S).take (nums 0 S).length).filter fun y => decide (x.1 < y.1) && q x.2 y.2).map fun y => (x.1, y.1) := by
        rw [take_flat hx, List.take_length]
      simp only [e]
      walk_at "le"
  · refine run_retL rfl fun B v q => ?_
    rw [List.take_length] at q
    exact q
abbrev SetP (S : List Ins) : Prop := S.length ≤ 100 ∧ ∀ i ∈ S, InP i
abbrev SpFOver (K : PySem.W.Frag) : Sp := sp1 K (.d setD) SetP (fun S B u => IsLst K ((pairsOf overB S).map pD) B u)
theorem ok_found_overlaps (T : Tb K mg) : FnOk P w K mg base CX0 2 T.found_overlaps.f T.found_overlaps.fd ["instances"] (SpFOver K) :=
  have G_do_overlap := ok_do_overlap (P := P) (w := w) (base := base) T
  fn1 T.found_overlaps.F sc_found_overlaps fun cdv A outer s H E hr => ⟨_, (pss_cons (ps_set (i := 1) sc_found_overlaps.nd rfl (.inl rfl) (pe_lst pa_nil)) (pss_cons (ps_for PassesOwn.never rfl (pi_enumT rfl T.g_enumerate (pa_cons (vr 0 rfl (.inl rfl)) pa_nil)) (pg_tupK K rfl (n := 2) rfl (pgs_cons (pg_name (i := 2) sc_found_overlaps.nd rfl (.inl rfl)) (pgs_cons (pg_name (i := 3) sc_found_overlaps.nd rfl (.inl rfl)) pgs_nil))) (pss_one (ps_for PassesOwn.never rfl (pi_enumT rfl T.g_enumerate (pa_cons (vr 0 rfl (.inl rfl)) pa_nil)) (pg_tupK K rfl (n := 2) rfl (pgs_cons (pg_name (i := 4) sc_found_overlaps.nd rfl (.inl rfl)) (pgs_cons (pg_name (i := 5) sc_found_overlaps.nd rfl (.inl rfl)) pgs_nil))) (pss_one (ps_if (PW.pt (pw_and (pt_cmpR (op_ltK K rfl (hu64 hr)) (vr 2 rfl (.inl rfl)) (vr 4 rfl (.inl rfl)) (nomark _)) (pw_and1 (pt_val (pe_call G_do_overlap (hr.mono (by omega)) rfl T.do_overlap.m T.do_overlap.F.kp T.do_overlap.b .nil pass0 (pa_cons (vr 3 rfl (.inl rfl)) (pa_cons (vr 5 rfl (.inl rfl)) pa_nil))))))) (pss_one (ps_expr (pe_bm PySem.F.plainAttrs_list PySem.F.slot_list_append PySem.F.type_list_append mt_append (vr 1 rfl (.inl rfl)) (pa_cons (pe_tupF (pa_cons (vr 2 rfl (.inl rfl)) (pa_cons (vr 4 rfl (.inl rfl)) pa_nil))) pa_nil)))) pss_nil))))) (pss_one (ps_ret (vr 1 rfl (.inl rfl)))))), fun S ⟨hl, hS⟩ F hF => by
    walk_at "go"
    refine run_pairs S hl fun x hx y hy acc hacc E hE => ?_
    refine run_iff (k := decide (x.1 < y.1) && overB x.2 y.2) (test_and ((test_op (a := .int (x.1 : Int)) (b := .int (y.1 : Int)) (run_var rfl) (run_var rfl) opb_ltI).is (by simp)) fun _ => test_B (RunV.toD (run_call2 (x1 := x.2) (x2 := y.2) (rp_d (run_var rfl)) (rp_d (run_var rfl)) ⟨hS _ (nums_mem hx).1, hS _ (nums_mem hy).1⟩))) (fun hk => ?_) (fun hk => run_next (hE _ ?_))
    · refine run_append (i := 1) (ds := acc.map pD) (d := pD (x.1, y.1)) rfl ?_ (run_tupF (run_a (run_var rfl) (run_a (run_var rfl) run_a0)) (by simp)) (hE _ ?_)
      · rw [List.length_map]
        omega
      · rw [if_pos hk, List.map_append]
        walk_at "le"
    · rw [if_neg (by rw [hk]; decide), List.append_nil]
      walk_at "le"⟩
def tangB (i j : Ins) : Bool := overB i j && (!moreB i j && !moreB j i)
abbrev SpFTang (K : PySem.W.Frag) : Sp := sp1 K (.d setD) SetP (fun S B u => IsLst K ((pairsOf tangB S).map pD) B u)
theorem ok_found_tangles (T : Tb K mg) : FnOk P w K mg base CX0 2 T.found_tangles.f T.found_tangles.fd ["instances"] (SpFTang K) :=
  have G_do_overlap := ok_do_overlap (P := P) (w := w) (base := base) T
  have G_more_special := ok_more_special (P := P) (w := w) (base := base) T
  fn1 T.found_tangles.F sc_found_tangles fun cdv A outer s H E hr => ⟨_, (pss_cons (ps_set (i := 1) sc_found_tangles.nd rfl (.inl rfl) (pe_lst pa_nil)) (pss_cons (ps_for PassesOwn.never rfl (pi_enumT rfl T.g_enumerate (pa_cons (vr 0 rfl (.inl rfl)) pa_nil)) (pg_tupK K rfl (n := 2) rfl (pgs_cons (pg_name (i := 2) sc_found_tangles.nd rfl (.inl rfl)) (pgs_cons (pg_name (i := 3) sc_found_tangles.nd rfl (.inl rfl)) pgs_nil))) (pss_one (ps_for PassesOwn.never rfl (pi_enumT rfl T.g_enumerate (pa_cons (vr 0 rfl (.inl rfl)) pa_nil)) (pg_tupK K rfl (n := 2) rfl (pgs_cons (pg_name (i := 4) sc_found_tangles.nd rfl (.inl rfl)) (pgs_cons (pg_name (i := 5) sc_found_tangles.nd rfl (.inl rfl)) pgs_nil))) (pss_one (ps_if (PW.pt (pw_and (pt_cmpR (op_ltK K rfl (hu64 hr)) (vr 2 rfl (.inl rfl)) (vr 4 rfl (.inl rfl)) (nomark _)) (pw_and1 (pt_val (pe_call G_do_overlap (hr.mono (by omega)) rfl T.do_overlap.m T.do_overlap.F.kp T.do_overlap.b .nil pass0 (pa_cons (vr 3 rfl (.inl rfl)) (pa_cons (vr 5 rfl (.inl rfl)) pa_nil))))))) (pss_one (ps_if (PW.pt (pw_and (pt_not (pt_val (pe_call G_more_special (hr.mono (by omega)) rfl T.more_special.m T.more_special.F.kp T.more_special.b .nil pass0 (pa_cons (vr 3 rfl (.inl rfl)) (pa_cons (vr 5 rfl (.inl rfl)) pa_nil))))) (pw_and1 (pt_not (pt_val (pe_call G_more_special (hr.mono (by omega)) rfl T.more_special.m T.more_special.F.kp T.more_special.b .nil pass0 (pa_cons (vr 5 rfl (.inl rfl)) (pa_cons (vr 3 rfl (.inl rfl)) pa_nil)))))))) (pss_one (ps_expr (pe_bm PySem.F.plainAttrs_list PySem.F.slot_list_append PySem.F.type_list_append mt_append (vr 1 rfl (.inl rfl)) (pa_cons (pe_tupF (pa_cons (vr 2 rfl (.inl rfl)) (pa_cons (vr 4 rfl (.inl rfl)) pa_nil))) pa_nil)))) pss_nil)) pss_nil))))) (pss_one (ps_ret (vr 1 rfl (.inl rfl)))))), fun S ⟨hl, hS⟩ F hF => by
    walk_at "go"
    refine run_pairs S hl fun x hx y hy acc hacc E hE => ?_
    have hix := hS _ (nums_mem hx).1
    have hiy := hS _ (nums_mem hy).1
    refine run_iff (k := decide (x.1 < y.1) && overB x.2 y.2) (test_and ((test_op (a := .int (x.1 : Int)) (b := .int (y.1 : Int)) (run_var rfl) (run_var rfl) opb_ltI).is (by simp)) fun _ => test_B (RunV.toD (run_call2 (x1 := x.2) (x2 := y.2) (rp_d (run_var rfl)) (rp_d (run_var rfl)) ⟨hix, hiy⟩))) (fun hk => ?_) (fun hk => run_next (hE _ ?_))
    · refine run_iff (k := !moreB x.2 y.2 && !moreB y.2 x.2) (test_and (test_not (test_B (RunV.toD (run_call2 (x1 := x.2) (x2 := y.2) (rp_d (run_var rfl)) (rp_d (run_var rfl)) ⟨hix.l, hiy.l⟩)))) fun _ => test_not (test_B (RunV.toD (run_call2 (x1 := y.2) (x2 := x.2) (rp_d (run_var rfl)) (rp_d (run_var rfl)) ⟨hiy.l, hix.l⟩)))) (fun hk2 => ?_) (fun hk2 => run_next (hE _ ?_))
      · refine run_append (i := 1) (ds := acc.map pD) (d := pD (x.1, y.1)) rfl ?_ (run_tupF (run_a (run_var rfl) (run_a (run_var rfl) run_a0)) (by simp)) (hE _ ?_)
        · rw [List.length_map]
          omega
        · have : (decide (x.1 < y.1) && tangB x.2 y.2) = true := by
            unfold tangB
            rw [← Bool.and_assoc, hk, hk2]
            rfl
          rw [if_pos this, List.map_append]
          walk_at "le"
      · have : (decide (x.1 < y.1) && tangB x.2 y.2) = false := by
          unfold tangB
          rw [← Bool.and_assoc, hk, hk2]
          rfl
        rw [if_neg (by rw [this]; decide), List.append_nil]
        walk_at "le"
    · have : (decide (x.1 < y.1) && tangB x.2 y.2) = false := by
        unfold tangB
        rw [← Bool.and_assoc, hk]
        rfl
      rw [if_neg (by rw [this]; decide), List.append_nil]
      walk_at "le"⟩
end Ts
set_option Elab.async false
set_option linter.all false
set_option maxRecDepth 100000
set_option maxHeartbeats 2000000
namespace Ts
open PySem PySem.Spec PyProof.Rows L2
local macro_rules | `(tactic| walk_at "go") => `(tactic| simp only [cxK, cxK2, List.map_cons, List.map_nil, List.length_cons, List.length_nil, List.replicate, List.cons_append, List.nil_append, List.append_nil, Pk.ent, Nat.reduceAdd, Nat.reduceSub])
local macro_rules | `(tactic| walk_at "rfl") => `(tactic| with_unfolding_all exact rfl)
local macro_rules | `(tactic| walk_at "op") => `(tactic| with_reducible first
  | exact opd_plusI | exact opd_sub | exact opd_mod (by decide) | exact opb_eqI | exact opb_neI | exact opb_eqS | exact opb_neS | exact opb_eqB | exact opb_neB
  | exact opb_leI | exact opb_gtI | exact opb_geI | exact opb_ltI | exact opb_ltS | exact opb_isN | exact opb_notN | exact opb_inSgF | exact opb_inSLF | exact opb_inSTF | exact opb_inSLT | exact opb_inSTT | exact opb_inS2F | exact opb_inS2T
  | (apply opd_ixT; try walk_at "ix") | (apply opd_ixL; try walk_at "ix") | (apply opd_ixS; rotate_left; try walk_at "ix"; rotate_right) | apply opd_plusT | apply opd_mul | apply opd_div | apply opd_pow)
local macro_rules | `(tactic| walk_at "opD") => `(tactic| with_reducible first
  | walk_at "op" | (apply OpB.toD; walk_at "op"))
local macro_rules | `(tactic| walk_at "call") => `(tactic| with_reducible first
  | apply run_call1 | apply run_call2 | apply run_call3 | apply run_call4 | apply run_call5)
local macro_rules | `(tactic| walk_at "kit") => `(tactic| with_unfolding_all first | exact kit_ii | exact kit_ib | exact kit_ss | exact kit_st | exact kit_ts | exact kit_tt | exact kit_it | exact kit_ns)
local macro_rules | `(tactic| walk_at "ix") => `(tactic| first | exact atI_zero | exact atI_one | assumption | (with_unfolding_all exact rfl))
local macro_rules | `(tactic| walk_at "e") => `(tactic| with_reducible first
  | exact run_int | exact run_str | exact run_bl | exact run_non
  | (apply run_var; walk_at "rfl") | (apply run_wld; walk_at "rfl")
  | exact run_a0 | apply run_a
  | apply run_op | apply run_isi | apply run_chain | apply run_not | apply run_neg
  | apply run_tupF | apply run_tail | apply run_slT | apply run_slS | exact runo_none | apply runo_some
  | apply run_cb | exact call_lenT | exact call_lenL | apply call_lenS | exact call_max
  | (apply rp_w; walk_at "rfl") | apply rp_d
  | walk_at "call" | (apply RunV.toD; walk_at "call") | (apply RunV.toE; walk_at "call")
  | apply test_of | apply test_B | apply test_not
  | exact trivial
  | (apply run_dget1I; apply run_tab; walk_at "rfl") | (apply run_dgetI; apply run_tab; walk_at "rfl") | (apply run_dgetI; apply run_varD; walk_at "rfl")
  | walk_at "kit"
  | (show _ = some _; assumption)
  | walk_at "opD")
local macro_rules | `(tactic| walk_at "es") => `(tactic| repeat' (first | walk_at "e"))
local macro_rules | `(tactic| walk_at "k") => `(tactic| with_reducible first
  | apply test_orF | apply test_andT | apply test_notT | apply test_notF
  | apply run_andT | apply run_orF)
local macro_rules | `(tactic| walk_at "kl") => `(tactic| with_reducible first | (apply RunT.is; apply test_of) | (apply RunT.is; apply test_B) | apply RunE.is)
local macro_rules | `(tactic| walk_at "side") => `(tactic| first | assumption | (apply decide_eq_false; assumption) | (apply decide_eq_true; assumption) | (with_unfolding_all exact rfl) | (simp; done) | (apply congrArg PyData.bool; assumption) | (simp [*]; done))
local macro_rules | `(tactic| walk_at "ks") => `(tactic| ((repeat' (first | walk_at "k")); (all_goals (try walk_at "kl")); (repeat' (first | walk_at "e")); (all_goals (try walk_at "side"))))
local macro_rules | `(tactic| walk_at "le") => `(tactic| repeat' (first | exact Le.nil | apply Le.keep | apply Le.drop))

variable {P : Program} {w : World} {K : PySem.W.Frag} {mg : Str → Option Value} {base : Heap}
abbrev Loose (S : List Ins) : Prop := pairsOf tangB S = []
abbrev SpOverlaps (K : PySem.W.Frag) : Sp := sp2 K (.w Wd.D) (.d setD) (fun w S => SetOk w S ∧ SetP S) (fun w S B u => Dp K B u (.tuple ((pairsOf overB S).map pD)))
theorem ok_overlaps (T : Tb K mg) : FnOk P w K mg base CX0 13 T.overlaps.f T.overlaps.fd ["world", "instances"] (SpOverlaps K) :=
  have G_check_set := ok_check_set (P := P) (w := w) (base := base) T
  have G_found_overlaps := ok_found_overlaps (P := P) (w := w) (base := base) T
  fn2 T.overlaps.F sc_overlaps fun cdv A outer s H E hr => ⟨_, (pss_cons (ps_expr (pe_call G_check_set (hr.mono (by omega)) rfl T.check_set.m T.check_set.F.kp T.check_set.b .nil pass0 (pa_cons (vr 0 rfl (.inl rfl)) (pa_cons (vr 1 rfl (.inl rfl)) pa_nil)))) (pss_one (ps_ret (pe_callTy call_tupA rfl T.g_tuple (by decide +kernel) (pa_cons (pe_call G_found_overlaps (hr.mono (by omega)) rfl T.found_overlaps.m T.found_overlaps.F.kp T.found_overlaps.b .nil pass0 (pa_cons (vr 1 rfl (.inl rfl)) pa_nil)) pa_nil))))), fun w S ⟨hok, hS⟩ F hF => by
    walk_at "go"
    refine run_seq (run_dropN (run_call2 (x1 := w) (x2 := S) (rp_w rfl) (rp_d (run_var rfl)) hok) ?_)
    exact run_ret (run_tupL (run_a (RunV.toE (run_call1 (x1 := S) (rp_d (run_var rfl)) hS)) run_a0)) fun B v q => q⟩
abbrev SpTangles (K : PySem.W.Frag) : Sp := sp2 K (.w Wd.D) (.d setD) (fun w S => SetOk w S ∧ SetP S) (fun w S B u => Dp K B u (.tuple ((pairsOf tangB S).map pD)))
theorem ok_tangles (T : Tb K mg) : FnOk P w K mg base CX0 13 T.tangles.f T.tangles.fd ["world", "instances"] (SpTangles K) :=
  have G_check_set := ok_check_set (P := P) (w := w) (base := base) T
  have G_found_tangles := ok_found_tangles (P := P) (w := w) (base := base) T
  fn2 T.tangles.F sc_tangles fun cdv A outer s H E hr => ⟨_, (pss_cons (ps_expr (pe_call G_check_set (hr.mono (by omega)) rfl T.check_set.m T.check_set.F.kp T.check_set.b .nil pass0 (pa_cons (vr 0 rfl (.inl rfl)) (pa_cons (vr 1 rfl (.inl rfl)) pa_nil)))) (pss_one (ps_ret (pe_callTy call_tupA rfl T.g_tuple (by decide +kernel) (pa_cons (pe_call G_found_tangles (hr.mono (by omega)) rfl T.found_tangles.m T.found_tangles.F.kp T.found_tangles.b .nil pass0 (pa_cons (vr 1 rfl (.inl rfl)) pa_nil)) pa_nil))))), fun w S ⟨hok, hS⟩ F hF => by
    walk_at "go"
    refine run_seq (run_dropN (run_call2 (x1 := w) (x2 := S) (rp_w rfl) (rp_d (run_var rfl)) hok) ?_)
    exact run_ret (run_tupL (run_a (RunV.toE (run_call1 (x1 := S) (rp_d (run_var rfl)) hS)) run_a0)) fun B v q => q⟩
abbrev SpLoose (K : PySem.W.Frag) : Sp := sp1 K (.d setD) (fun S => SetP S ∧ Loose S) (fun S B u => u = .non)
theorem ok_check_loose (T : Tb K mg) : FnOk P w K mg base CX0 3 T.check_loose.f T.check_loose.fd ["instances"] (SpLoose K) :=
  have G_found_tangles := ok_found_tangles (P := P) (w := w) (base := base) T
  fn1 T.check_loose.F sc_check_loose fun cdv A outer s H E hr => ⟨_, (pss_one (ps_if (pt_cmpR (op_neK K rfl (hu64 hr)) (pe_call G_found_tangles (hr.mono (by omega)) rfl T.found_tangles.m T.found_tangles.F.kp T.found_tangles.b .nil pass0 (pa_cons (vr 0 rfl (.inl rfl)) pa_nil)) (pe_lst pa_nil) (nomark _)) pss_never pss_nil)), fun S ⟨hS, hL⟩ F hF => by
    walk_at "go"
    refine run_iffF (RunT.is (test_op (RunV.toE (run_call1 (x1 := S) (rp_d (run_var rfl)) hS)) (RunL.toE (run_lst run_a0 (by simp))) (opb_neD ?_ (Sh.lst (m := 0) ShA.nil).shaped)) ?_) (run_next fun B => rfl)
    · rw [hL]
      exact (Sh.lst (m := 0) ShA.nil).shaped
    · rw [hL]
      simp [PyData.eqv, PyData.eqvAll]⟩
/-! ### the chosen instance -/
def chosenB (S : List Ins) (t : Str) (s : Srt) : Option Nat := choose (fitRows S t s)
theorem choose_mem {rows : List (Nat × Ins)} {k : Nat} (h : choose rows = some k) : ∃ x ∈ rows, x.1 = k := by
  unfold choose at h
  obtain ⟨x, hx, e⟩ := Option.map_eq_some_iff.mp h
  exact ⟨x, List.mem_of_find?_eq_some hx, e⟩
abbrev SpChosenFor (K : PySem.W.Frag) : Sp := sp3 K (.d setD) (.d PyData.str) (.d Srt.D) (fun S _ _ => SetL S) (fun S t s B u => Dp K B u (optD (chosenB S t s)))
theorem ok_chosen_for (T : Tb K mg) : FnOk P w K mg base CX0 3 T.chosen_for.f T.chosen_for.fd ["instances", "trait", "sort"] (SpChosenFor K) :=
  have G_chosen_of := ok_chosen_of (P := P) (w := w) (base := base) T
  fn3 T.chosen_for.F sc_chosen_for fun cdv A outer s H E hr => ⟨_, (pss_one (ps_ret (pe_call G_chosen_of (hr.mono (by omega)) rfl T.chosen_of.m T.chosen_of.F.kp T.chosen_of.b .nil pass0 (pa_cons (vr 0 rfl (.inl rfl)) (pa_cons (vr 1 rfl (.inl rfl)) (pa_cons (pe_ix (ix_K K rfl) (vr 2 rfl (.inl rfl)) pe_int (fun _ _ => rfl)) (pa_cons (pe_lc (own := [("part", 3)]) rfl sc_chosen_for.nd (pi_any (pe_slice (sl_K K rfl) (vr 2 rfl (.inl rfl)) (po_some pe_int) po_none)) (blkOk_by (own := [("part", 3)]) (N := ["instances", "trait", "sort", "part"]) (sc := defScope s_chosen_for) (by decide +kernel)) (fun _ _ _ _ _ => (pg_name (i := 3) sc_chosen_for.nd rfl (.inl rfl))) (fun _ _ _ _ _ => pts_nil) (fun _ _ _ _ _ => (pe_ix (ix_K K rfl) (vr 3 rfl (.inl rfl)) pe_int (fun _ _ => rfl)))) pa_nil))))))), fun S t so hS F hF => by
    walk_at "go"
    refine run_ret (RunV.toD (run_call4 (x1 := S) (x2 := t) (x3 := so.n) (x4 := so.ps.map Srt.n) (rp_d (run_var rfl)) (rp_d (run_var rfl)) (rp_d (run_op (run_var rfl) run_int (opd_ixT atI_zero))) (rp_d (RunE.is (RunL.toE (run_lc0 (vs := [3]) so.ps Srt.T (fun p => .str p.n) (runi_tup (run_tail (run_var rfl))) (by have := so.ps_len; omega) fun k p hp => ⟨_, rung_name (by decide), ?_⟩)) (by rw [List.map_map] <;> rfl))) hS)) fun B v q => q
    rw [Srt.T_eq]
    exact run_op (run_var rfl) run_int (opd_ixT atI_zero)⟩
abbrev SpChosen (K : PySem.W.Frag) : Sp := sp4 K (.w Wd.D) (.d setD) (.d PyData.str) (.d Srt.D) (fun w S t s => AskOk w S t s ∧ SetP S ∧ Loose S) (fun w S t s B u => Dp K B u (optD (chosenB S t s)))
theorem ok_chosen (T : Tb K mg) : FnOk P w K mg base CX0 14 T.chosen.f T.chosen.fd ["world", "instances", "trait", "sort"] (SpChosen K) :=
  have G_check_ask := ok_check_ask (P := P) (w := w) (base := base) T
  have G_check_loose := ok_check_loose (P := P) (w := w) (base := base) T
  have G_chosen_for := ok_chosen_for (P := P) (w := w) (base := base) T
  fn4 T.chosen.F sc_chosen fun cdv A outer s H E hr => ⟨_, (pss_cons (ps_expr (pe_call G_check_ask (hr.mono (by omega)) rfl T.check_ask.m T.check_ask.F.kp T.check_ask.b .nil pass0 (pa_cons (vr 0 rfl (.inl rfl)) (pa_cons (vr 1 rfl (.inl rfl)) (pa_cons (vr 2 rfl (.inl rfl)) (pa_cons (vr 3 rfl (.inl rfl)) pa_nil)))))) (pss_cons (ps_expr (pe_call G_check_loose (hr.mono (by omega)) rfl T.check_loose.m T.check_loose.F.kp T.check_loose.b .nil pass0 (pa_cons (vr 1 rfl (.inl rfl)) pa_nil))) (pss_one (ps_ret (pe_call G_chosen_for (hr.mono (by omega)) rfl T.chosen_for.m T.chosen_for.F.kp T.chosen_for.b .nil pass0 (pa_cons (vr 1 rfl (.inl rfl)) (pa_cons (vr 2 rfl (.inl rfl)) (pa_cons (vr 3 rfl (.inl rfl)) pa_nil)))))))), fun w S t so ⟨hok, hS, hL⟩ F hF => by
    walk_at "go"
    refine run_seq (run_dropN (run_call4 (x1 := w) (x2 := S) (x3 := t) (x4 := so) (rp_w rfl) (rp_d (run_var rfl)) (rp_d (run_var rfl)) (rp_d (run_var rfl)) hok) ?_)
    refine run_seq (run_dropN (run_call1 (x1 := S) (rp_d (run_var rfl)) ⟨hS, hL⟩) ?_)
    exact run_ret (RunV.toD (run_call3 (x1 := S) (x2 := t) (x3 := so) (rp_d (run_var rfl)) (rp_d (run_var rfl)) (rp_d (run_var rfl)) ⟨hS.1, fun i hi => (hS.2 i hi).l⟩)) fun B v q => q⟩
/-- holds by the choice c -/
def specN (c : List Ins → Str → Srt → Option Nat) : Nat → List Ins → Str → Srt → Bool
  | 0, _, _, _ => false
  | d + 1, S, t, s => match c S t s with
    | none => false
    | some k => match S[k]? with
      | none => false
      | some i => i.a.all fun a => match s.ps[a.p]? with
        | some p => specN c d S a.t p
        | none => false
abbrev SpSpec (K : PySem.W.Frag) (d : Nat) : Sp := sp3 K (.d setD) (.d PyData.str) (.d Srt.D) (fun S t s => Rd S s ∧ s.dep ≤ d) (fun S t s B u => Dp K B u (.bool (specN chosenB d S t s)))
theorem set_at {S : List Ins} {k : Nat} {i : Ins} (h : S[k]? = some i) : atI (S.map Ins.D) (k : Int) = some i.D := atI_nat (by rw [List.getElem?_map, h]; rfl)
theorem ok_stands_specially (T : Tb K mg) : ∀ d, FnOk P w K mg base CX0 (d + 3) T.stands_specially.f T.stands_specially.fd ["instances", "trait", "sort"] (SpSpec K d)
  | 0 => ⟨fun _ _ _ _ ⟨_, _, _, _, _, _, x, _, _, _, _, _, ⟨_, z⟩, _⟩ => absurd z (Nat.not_le_of_gt (Srt.dep_pos x)), fun _ _ _ _ _ _ _ _ _ _ _ _ _ ⟨_, _, _, _, _, _, x, _, _, _, _, _, ⟨_, z⟩, _⟩ => absurd z (Nat.not_le_of_gt (Srt.dep_pos x))⟩
  | d + 1 =>
  have G_chosen_for := ok_chosen_for (P := P) (w := w) (base := base) T
  have G_stands_specially := ok_stands_specially T d
  fn3 T.stands_specially.F sc_stands_specially fun cdv A outer s H E hr => ⟨_, (pss_cons (ps_set (i := 3) sc_stands_specially.nd rfl (.inl rfl) (pe_call G_chosen_for (hr.mono (by omega)) rfl T.chosen_for.m T.chosen_for.F.kp T.chosen_for.b .nil pass0 (pa_cons (vr 0 rfl (.inr (.inl rfl))) (pa_cons (vr 1 rfl (.inl rfl)) (pa_cons (vr 2 rfl (.inr (.inl rfl))) pa_nil))))) (pss_cons (ps_if (pt_cmpR op_isNn (vr 3 rfl (.inl rfl)) pe_non (nomark _)) (pss_one (ps_ret pe_bl)) pss_nil) (pss_one (ps_ret (pe_callB (cr_all rfl) rfl T.g_all (by decide +kernel) (pa_cons (pe_lc (own := [("other", 4), ("part", 5)]) rfl sc_stands_specially.nd (pi_any (pe_ix (ix_K K rfl) (pe_ix (ix_K K rfl) (vr 0 rfl (.inr (.inl rfl))) (vr 3 rfl (.inl rfl)) (fun _ _ => rfl)) pe_int (fun _ _ => rfl))) (blkOk_by (own := [("other", 4), ("part", 5)]) (N := ["instances", "trait", "sort", "number", "other", "part"]) (sc := defScope s_stands_specially) (by decide +kernel)) (fun _ _ _ _ _ => (pg_tupK K rfl (n := 2) rfl (pgs_cons (pg_name (i := 4) sc_stands_specially.nd rfl (.inl rfl)) (pgs_cons (pg_name (i := 5) sc_stands_specially.nd rfl (.inl rfl)) pgs_nil)))) (fun _ _ _ _ _ => pts_nil) (fun _ _ _ _ _ => (pe_call G_stands_specially (hr.mono (by omega)) rfl T.stands_specially.m T.stands_specially.F.kp T.stands_specially.b .nil pass0 (pa_cons (vr 0 rfl (.inr (.inl rfl))) (pa_cons (vr 4 rfl (.inl rfl)) (pa_cons (pe_ix (ix_K K rfl) (vr 2 rfl (.inr (.inl rfl))) (pe_op (op_plusK K rfl) (vr 5 rfl (.inl rfl)) pe_int) (fun _ _ => rfl)) pa_nil)))))) pa_nil)))))), fun S t so ⟨hR, hd⟩ F hF => by
    walk_at "go"
    refine run_asgq (RunV.toD (run_call3 (x1 := S) (x2 := t) (x3 := so) (rp_d (run_var rfl)) (rp_d (run_var rfl)) (rp_d (run_var rfl)) hR.lims)) ?_
    rw [specN]
    cases hc : chosenB S t so with
    | none =>
      refine run_seq (run_iffT (test_op (a := .none) (run_var rfl) run_non opb_isN) (run_ret run_bl fun B v q => q))
    | some k =>
      obtain ⟨x, hx, hk⟩ := choose_mem hc
      obtain ⟨q1, q2, q3, q4⟩ := fitRows_mem hx
      rw [hk] at q4
      simp only [q4]
      refine run_skip (test_op (a := .int (k : Int)) (run_var rfl) run_non (opb_isNV (k := true) (by simp))) ?_
      refine run_ret (run_all (l := x.2.a) (p := fun a => match so.ps[a.p]? with
        | some p => specN chosenB d S a.t p
        | none => false) (RunL.toE (run_lc0 (vs := [4, 5]) x.2.a Ask.D _ (runi_tup (run_op (run_op (run_var rfl) (run_var rfl) (opd_ixT (set_at q4))) run_int (opd_ixT rfl))) (by have := hR.asks q1; omega) fun k a ha => ⟨_, rung2, ?_⟩))) fun B v q => q
      obtain ⟨p, hp⟩ := hR.get hx (List.mem_of_getElem? ha)
      simp only [hp]
      have hpm := List.mem_of_getElem? hp
      refine RunV.toD (run_call3 (x1 := S) (x2 := a.t) (x3 := p) (rp_d (run_var rfl)) (rp_d (run_var rfl)) (rp_d ?_) ⟨hR.part hpm, by have := Srt.dep_lt hpm; omega⟩)
      rw [← Srt.T_eq p]
      exact run_op (run_var rfl) (run_op (run_var rfl) run_int opd_plusI) (opd_ixT (part_at hp))⟩
abbrev SpHoldsS (K : PySem.W.Frag) : Sp := sp4 K (.w Wd.D) (.d setD) (.d PyData.str) (.d Srt.D) (fun w S t s => AskOk w S t s ∧ Rd S s ∧ SetP S ∧ Loose S) (fun w S t s B u => Dp K B u (.bool (specN chosenB 8 S t s)))
theorem ok_holds_specially (T : Tb K mg) : FnOk P w K mg base CX0 14 T.holds_specially.f T.holds_specially.fd ["world", "instances", "trait", "sort"] (SpHoldsS K) :=
  have G_check_ask := ok_check_ask (P := P) (w := w) (base := base) T
  have G_check_loose := ok_check_loose (P := P) (w := w) (base := base) T
  have G_stands_specially := ok_stands_specially (P := P) (w := w) (base := base) T 8
  fn4 T.holds_specially.F sc_holds_specially fun cdv A outer s H E hr => ⟨_, (pss_cons (ps_expr (pe_call G_check_ask (hr.mono (by omega)) rfl T.check_ask.m T.check_ask.F.kp T.check_ask.b .nil pass0 (pa_cons (vr 0 rfl (.inl rfl)) (pa_cons (vr 1 rfl (.inl rfl)) (pa_cons (vr 2 rfl (.inl rfl)) (pa_cons (vr 3 rfl (.inl rfl)) pa_nil)))))) (pss_cons (ps_expr (pe_call G_check_loose (hr.mono (by omega)) rfl T.check_loose.m T.check_loose.F.kp T.check_loose.b .nil pass0 (pa_cons (vr 1 rfl (.inl rfl)) pa_nil))) (pss_one (ps_ret (pe_call G_stands_specially (hr.mono (by omega)) rfl T.stands_specially.m T.stands_specially.F.kp T.stands_specially.b .nil pass0 (pa_cons (vr 1 rfl (.inl rfl)) (pa_cons (vr 2 rfl (.inl rfl)) (pa_cons (vr 3 rfl (.inl rfl)) pa_nil)))))))), fun w S t so ⟨hok, hR, hS, hL⟩ F hF => by
    walk_at "go"
    refine run_seq (run_dropN (run_call4 (x1 := w) (x2 := S) (x3 := t) (x4 := so) (rp_w rfl) (rp_d (run_var rfl)) (rp_d (run_var rfl)) (rp_d (run_var rfl)) hok) ?_)
    refine run_seq (run_dropN (run_call1 (x1 := S) (rp_d (run_var rfl)) ⟨hS, hL⟩) ?_)
    exact run_ret (RunV.toD (run_call3 (x1 := S) (x2 := t) (x3 := so) (rp_d (run_var rfl)) (rp_d (run_var rfl)) (rp_d (run_var rfl)) ⟨hR, by have := hok.d; omega⟩)) fun B v q => q⟩
/-! ### the law's own -/
abbrev SpLTraits (K : PySem.W.Frag) : Sp := sp1 K (.w Wd.D) (fun w => w.ts.length ≤ 100) (fun w B u => IsLst K ((w.ts.map Trt.n).map .str) B u)
theorem ok__law_traits (T : Tb K mg) : FnOk P w K mg base CX0 1 T._law_traits.f T._law_traits.fd ["_law_world_here"] (SpLTraits K) :=
  fn1 T._law_traits.F sc__law_traits fun cdv A outer s H E hr => ⟨_, (pss_one (ps_ret (pe_lc (own := [("_law_row", 1)]) rfl sc__law_traits.nd (pi_any (pe_ix (ix_K K rfl) (vr 0 rfl (.inl rfl)) pe_int (fun _ _ => rfl))) (blkOk_by (own := [("_law_row", 1)]) (N := ["_law_world_here", "_law_row"]) (sc := defScope s__law_traits) (by decide +kernel)) (fun _ _ _ _ _ => (pg_name (i := 1) sc__law_traits.nd rfl (.inl rfl))) (fun _ _ _ _ _ => pts_nil) (fun _ _ _ _ _ => (pe_ix (ix_K K rfl) (vr 1 rfl (.inl rfl)) pe_int (fun _ _ => rfl)))))), fun w hw F hF => by
    walk_at "go"
    refine run_retV (RunL.toV (RunL.is (run_lc0 (vs := [1]) w.ts Trt.D (fun t => .str t.n) (runi_tup (run_op (run_wld rfl) run_int (opd_ixT rfl))) (by omega) fun i c hc => ⟨_, rung_name (by decide), run_op (run_var rfl) run_int (opd_ixT rfl)⟩) (by rw [List.map_map] <;> rfl))) fun B v q => q⟩
end Ts
set_option Elab.async false
set_option linter.all false
set_option maxRecDepth 100000
set_option maxHeartbeats 2000000
namespace Ts
open PySem PySem.Spec PyProof.Rows L2
local macro_rules | `(tactic| walk_at "go") => `(tactic| simp only [cxK, cxK2, List.map_cons, List.map_nil, List.length_cons, List.length_nil, List.replicate, List.cons_append, List.nil_append, List.append_nil, Pk.ent, Nat.reduceAdd, Nat.reduceSub])
local macro_rules | `(tactic| walk_at "rfl") => `(tactic| with_unfolding_all exact rfl)
local macro_rules | `(tactic| walk_at "op") => `(tactic| with_reducible first
  | exact opd_plusI | exact opd_sub | exact opd_mod (by decide) | exact opb_eqI | exact opb_neI | exact opb_eqS | exact opb_neS | exact opb_eqB | exact opb_neB
  | exact opb_leI | exact opb_gtI | exact opb_geI | exact opb_ltI | exact opb_ltS | exact opb_isN | exact opb_notN | exact opb_inSgF | exact opb_inSLF | exact opb_inSTF | exact opb_inSLT | exact opb_inSTT | exact opb_inS2F | exact opb_inS2T
  | (apply opd_ixT; try walk_at "ix") | (apply opd_ixL; try walk_at "ix") | (apply opd_ixS; rotate_left; try walk_at "ix"; rotate_right) | apply opd_plusT | apply opd_mul | apply opd_div | apply opd_pow)
local macro_rules | `(tactic| walk_at "opD") => `(tactic| with_reducible first
  | walk_at "op" | (apply OpB.toD; walk_at "op"))
local macro_rules | `(tactic| walk_at "call") => `(tactic| with_reducible first
  | apply run_call1 | apply run_call2 | apply run_call3 | apply run_call4 | apply run_call5)
local macro_rules | `(tactic| walk_at "kit") => `(tactic| with_unfolding_all first | exact kit_ii | exact kit_ib | exact kit_ss | exact kit_st | exact kit_ts | exact kit_tt | exact kit_it | exact kit_ns)
local macro_rules | `(tactic| walk_at "ix") => `(tactic| first | exact atI_zero | exact atI_one | assumption | (with_unfolding_all exact rfl))
local macro_rules | `(tactic| walk_at "e") => `(tactic| with_reducible first
  | exact run_int | exact run_str | exact run_bl | exact run_non
  | (apply run_var; walk_at "rfl") | (apply run_wld; walk_at "rfl")
  | exact run_a0 | apply run_a
  | apply run_op | apply run_isi | apply run_chain | apply run_not | apply run_neg
  | apply run_tupF | apply run_tail | apply run_slT | apply run_slS | exact runo_none | apply runo_some
  | apply run_cb | exact call_lenT | exact call_lenL | apply call_lenS | exact call_max
  | (apply rp_w; walk_at "rfl") | apply rp_d
  | walk_at "call" | (apply RunV.toD; walk_at "call") | (apply RunV.toE; walk_at "call")
  | apply test_of | apply test_B | apply test_not
  | exact trivial
  | (apply run_dget1I; apply run_tab; walk_at "rfl") | (apply run_dgetI; apply run_tab; walk_at "rfl") | (apply run_dgetI; apply run_varD; walk_at "rfl")
  | walk_at "kit"
  | (show _ = some _; assumption)
  | walk_at "opD")
local macro_rules | `(tactic| walk_at "es") => `(tactic| repeat' (first | walk_at "e"))
local macro_rules | `(tactic| walk_at "k") => `(tactic| with_reducible first
  | apply test_orF | apply test_andT | apply test_notT | apply test_notF
  | apply run_andT | apply run_orF)
local macro_rules | `(tactic| walk_at "kl") => `(tactic| with_reducible first | (apply RunT.is; apply test_of) | (apply RunT.is; apply test_B) | apply RunE.is)
local macro_rules | `(tactic| walk_at "side") => `(tactic| first | assumption | (apply decide_eq_false; assumption) | (apply decide_eq_true; assumption) | (with_unfolding_all exact rfl) | (simp; done) | (apply congrArg PyData.bool; assumption) | (simp [*]; done))
local macro_rules | `(tactic| walk_at "ks") => `(tactic| ((repeat' (first | walk_at "k")); (all_goals (try walk_at "kl")); (repeat' (first | walk_at "e")); (all_goals (try walk_at "side"))))
local macro_rules | `(tactic| walk_at "le") => `(tactic| repeat' (first | exact Le.nil | apply Le.keep | apply Le.drop))

variable {P : Program} {w : World} {K : PySem.W.Frag} {mg : Str → Option Value} {base : Heap}
def limAt (ls : List (Option Str)) (ps : List Srt) (k : Nat) : Bool := match ls[k]?, ps[k]? with
  | some l, some p => limFit l p.n
  | _, _ => true
theorem limsFit_range : ∀ (ls : List (Option Str)) (ps : List Srt), ls.length = ps.length → ((List.range ls.length).all (limAt ls ps)) = limsFit ls (ps.map Srt.n)
  | [], [], _ => rfl
  | [], _ :: _, h => by simp at h
  | _ :: _, [], h => by simp at h
  | l :: ls, p :: ps, h => by
    rw [List.length_cons, List.range_succ_eq_map, List.all_cons, List.all_map, List.map_cons, limsFit, ← limsFit_range ls ps (by simpa using h)]
    congr 1
theorem Rd.arity {S : List Ins} {s : Srt} (h : Rd S s) {i : Ins} (hi : i ∈ S) (hr : i.r = s.n) : i.l.length = s.ps.length := by
  obtain ⟨w, h1, h2, h3, _⟩ := h.ok
  have e1 := h1.tab _ (h2 _ hi).r
  have e2 := h1.tab _ h3.root
  simp only at e1 e2
  rw [hr, e2] at e1
  have e3 : (s.ps.length : Int) = (i.l.length : Int) := by simpa using e1
  omega
abbrev SpLFits (K : PySem.W.Frag) : Sp := sp2 K (.d Ins.D) (.d Srt.D) (fun i s => ∃ S, Rd S s ∧ i ∈ S) (fun i s B u => Dp K B u (.bool (fitB i s)))
theorem ok__law_fits (T : Tb K mg) : FnOk P w K mg base CX0 1 T._law_fits.f T._law_fits.fd ["_law_instance_here", "_law_sort_here"] (SpLFits K) :=
  fn2 T._law_fits.F sc__law_fits fun cdv A outer s H E hr => ⟨_, (pss_cons (ps_if (pt_cmpR (op_neK K rfl (hu64 hr)) (pe_ix (ix_K K rfl) (vr 0 rfl (.inl rfl)) pe_int (fun _ _ => rfl)) (pe_ix (ix_K K rfl) (vr 1 rfl (.inl rfl)) pe_int (fun _ _ => rfl)) (nomark _)) (pss_one (ps_ret pe_bl)) pss_nil) (pss_cons (ps_for PassesOwn.never rfl (pi_range1 rfl T.g_range (pa_cons (pe_callB (call_lenK K rfl) rfl T.g_len (by decide +kernel) (pa_cons (pe_ix (ix_K K rfl) (vr 0 rfl (.inl rfl)) pe_int (fun _ _ => rfl)) pa_nil)) pa_nil)) (pg_name (i := 2) sc__law_fits.nd rfl (.inl rfl)) (pss_one (ps_if (PW.pt (pw_and (pt_cmpR op_notNn (pe_ix (ix_K K rfl) (pe_ix (ix_K K rfl) (vr 0 rfl (.inl rfl)) pe_int (fun _ _ => rfl)) (vr 2 rfl (.inl rfl)) (fun _ _ => rfl)) pe_non (nomark _)) (pw_and1 (pt_cmpR (op_neK K rfl (hu64 hr)) (pe_ix (ix_K K rfl) (pe_ix (ix_K K rfl) (vr 1 rfl (.inl rfl)) (pe_op (op_plusK K rfl) (vr 2 rfl (.inl rfl)) pe_int) (fun _ _ => rfl)) pe_int (fun _ _ => rfl)) (pe_ix (ix_K K rfl) (pe_ix (ix_K K rfl) (vr 0 rfl (.inl rfl)) pe_int (fun _ _ => rfl)) (vr 2 rfl (.inl rfl)) (fun _ _ => rfl)) (nomark _))))) (pss_one (ps_ret pe_bl)) pss_nil))) (pss_one (ps_ret pe_bl)))), fun i so ⟨S, hR, hi⟩ F hF => by
    walk_at "go"
    refine run_seq (run_iff (k := !decide (i.r = so.n)) (test_op (run_op (run_var rfl) run_int (opd_ixT rfl)) (run_op (run_var rfl) run_int (opd_ixT atI_zero)) opb_neS) (fun hk => ?_) (fun hk => run_next ?_))
    · refine run_ret run_bl fun B v q => ?_
      show Dp K B v (.bool (fitB i so))
      unfold fitB
      rw [not_true_b hk]
      exact q
    · have hroot := not_false_b hk
      have har := hR.arity hi (of_decide_eq_true hroot)
      have hl := (hR.lims.2 i hi).1
      have hfit : fitB i so = (List.range i.l.length).all (limAt i.l so.ps) := by
        unfold fitB
        rw [hroot, limsFit_range _ _ har]
        rfl
      rw [hfit]
      refine run_seq (run_forAll (vs := [2]) (List.range i.l.length) (fun (k : Nat) => PyData.int (k : Int)) (limAt i.l so.ps) (runi_rngM (run_a (RunE.is (run_cb (run_a (run_op (run_var rfl) run_int (opd_ixT rfl)) run_a0) call_lenT) (by rw [List.length_map])) run_a0) (by omega)) (fun k x hx => ?_) (fun ha => ?_))
      · have hk : x < i.l.length := List.mem_range.mp (List.mem_of_getElem? hx)
        have e1 : i.l[x]? = some i.l[x] := List.getElem?_eq_getElem hk
        have e2 : so.ps[x]? = some (so.ps[x]'(by omega)) := List.getElem?_eq_getElem (by omega)
        have a1 : atI (i.l.map limD) (x : Int) = some (limD i.l[x]) := atI_nat (by rw [List.getElem?_map, e1]; rfl)
        have a2 := part_at e2
        refine ⟨_, rung_name (by decide), fun hp => run_iffF (RunT.is (b := !limAt i.l so.ps x) ?_ (by rw [hp]; rfl)) (run_next (by walk_at "le")), fun hp ha E' hE => run_iffT (RunT.is (b := !limAt i.l so.ps x) ?_ (by rw [hp]; rfl)) (run_ret run_bl fun B v q => ?_)⟩
        case refine_3 =>
          rw [hE, ha]
          exact q
        all_goals
          have hl : limAt i.l so.ps x = limFit i.l[x] (so.ps[x]'(by omega)).n := by
            unfold limAt
            rw [e1, e2]
          rw [hl]
          clear hl hp
          rw [Srt.T_eq] at a2
          generalize i.l[x] = y at a1
          generalize (so.ps[x]'(by omega)) = p at a2
          cases y with
          | none => exact test_andF (test_op (a := .none) (run_op (run_op (run_var rfl) run_int (opd_ixT rfl)) (run_var rfl) (opd_ixT a1)) run_non opb_notN)
          | some y =>
            refine test_andT (test_op (a := .str y) (run_op (run_op (run_var rfl) run_int (opd_ixT rfl)) (run_var rfl) (opd_ixT a1)) run_non (opb_notNV (fun z => nomatch z))) ?_
            exact test_op (run_op (run_op (run_var rfl) (run_op (run_var rfl) run_int opd_plusI) (opd_ixT a2)) run_int (opd_ixT atI_zero)) (run_op (run_op (run_var rfl) run_int (opd_ixT rfl)) (run_var rfl) (opd_ixT a1)) opb_neS
      · rw [ha]
        exact run_ret run_bl fun B v q => q⟩
/-! ### the best -/
def cnt (i : Ins) : Nat := (i.l.filter fun x => !decide (x = none)).length
abbrev cntD (x : Nat × Ins) : PyData := .tuple [.int (cnt x.2 : Int), .int (x.1 : Int)]
abbrev cLe (a b : Nat × Ins) : Bool := PySem.W.dataLe false id (cntD a) (cntD b)
def bestL (S : List Ins) (t : Str) (s : Srt) : List (Nat × Ins) := (fitRows S t s).mergeSort cLe
def bestB (S : List Ins) (t : Str) (s : Srt) : Option Nat := (bestL S t s).getLast?.map (·.1)
theorem fitRows_one (S : List Ins) (t : Str) (s : Srt) : fitRows S t s = (nums 0 S).filter fun x => decide (x.2.t = t) && fitB x.2 s := by
  unfold fitRows
  rw [List.filter_filter]
  congr 1
  funext x
  rw [Bool.and_comm]
theorem atI_last {al : Type} {l : List al} {x : al} (h : l.getLast? = some x) : atI l (-1) = some x := by
  have hne : l ≠ [] := fun e => by rw [e] at h; cases h
  have hl : 0 < l.length := List.length_pos_iff.mpr hne
  unfold atI ixN
  rw [if_neg (by omega), if_pos (by omega)]
  show l[((-1 : Int) + (l.length : Int)).toNat]? = some x
  rw [show ((-1 : Int) + (l.length : Int)).toNat = l.length - 1 by omega, ← List.getLast?_eq_getElem?]
  exact h
abbrev SpBest (K : PySem.W.Frag) : Sp := sp3 K (.d setD) (.d PyData.str) (.d Srt.D) (fun S t s => Rd S s) (fun S t s B u => Dp K B u (optD (bestB S t s)))
theorem ok__law_best (T : Tb K mg) : FnOk P w K mg base CX0 2 T._law_best.f T._law_best.fd ["_law_instances", "_law_trait", "_law_sort_here"] (SpBest K) :=
  have G__law_fits := ok__law_fits (P := P) (w := w) (base := base) T
  fn3 T._law_best.F sc__law_best fun cdv A outer s H E hr => ⟨_, (pss_cons (ps_set (i := 3) sc__law_best.nd rfl (.inl rfl) (pe_lst pa_nil)) (pss_cons (ps_for PassesOwn.never rfl (pi_enumT rfl T.g_enumerate (pa_cons (vr 0 rfl (.inl rfl)) pa_nil)) (pg_tupK K rfl (n := 2) rfl (pgs_cons (pg_name (i := 4) sc__law_best.nd rfl (.inl rfl)) (pgs_cons (pg_name (i := 5) sc__law_best.nd rfl (.inl rfl)) pgs_nil))) (pss_one (ps_if (PW.pt (pw_and (pt_cmpR (op_eqK K rfl (hu64 hr)) (pe_ix (ix_K K rfl) (vr 5 rfl (.inl rfl)) pe_int (fun _ _ => rfl)) (vr 1 rfl (.inl rfl)) (nomark _)) (pw_and1 (pt_val (pe_call G__law_fits (hr.mono (by omega)) rfl T._law_fits.m T._law_fits.F.kp T._law_fits.b .nil pass0 (pa_cons (vr 5 rfl (.inl rfl)) (pa_cons (vr 2 rfl (.inl rfl)) pa_nil))))))) (pss_one (ps_expr (pe_bm PySem.F.plainAttrs_list PySem.F.slot_list_append PySem.F.type_list_append mt_append (vr 3 rfl (.inl rfl)) (pa_cons (pe_tupF (pa_cons (pe_callB (call_lenK K rfl) rfl T.g_len (by decide +kernel) (pa_cons (pe_lc (own := [("_law_limit", 6)]) rfl sc__law_best.nd (pi_any (pe_ix (ix_K K rfl) (vr 5 rfl (.inl rfl)) pe_int (fun _ _ => rfl))) (blkOk_by (own := [("_law_limit", 6)]) (N := ["_law_instances", "_law_trait", "_law_sort_here", "_law_rows", "_law_number", "_law_one", "_law_limit"]) (sc := defScope s__law_best) (by decide +kernel)) (fun _ _ _ _ _ => (pg_name (i := 6) sc__law_best.nd rfl (.inl rfl))) (fun _ _ _ _ _ => (pts_one (pt_cmpR op_notNn (vr 6 rfl (.inl rfl)) pe_non (nomark _)))) (fun _ _ _ _ _ => (vr 6 rfl (.inl rfl)))) pa_nil)) (pa_cons (vr 4 rfl (.inl rfl)) pa_nil))) pa_nil)))) pss_nil))) (pss_one (ps_ret (pe_ifExp (pt_cmpR (op_neK K rfl (hu64 hr)) (vr 3 rfl (.inl rfl)) (pe_lst pa_nil) (nomark _)) (pe_ix (ix_K K rfl) (pe_ix (ix_K K rfl) (pe_callB (cr_sortD (hu64 hr)) rfl T.g_sorted (by decide +kernel) (pa_cons (vr 3 rfl (.inl rfl)) pa_nil)) (pe_un un_neg pe_int) (fun _ _ => rfl)) pe_int (fun _ _ => rfl)) pe_non))))), fun S t so hR F hF => by
    walk_at "go"
    have hS8 := hR.len
    have hn : (nums 0 S).length ≤ 8 := by rw [nums_len]; exact hS8
    refine run_asgLq (run_lst run_a0 (by simp)) ?_
    refine run_seq (run_forM (vs := [4, 5]) (nums 0 S) numD (fun i => [none, some (.d (.str t)), some (.d so.D), some (.own ((((nums 0 S).take i).filter fun x => decide (x.2.t = t) && fitB x.2 so).map cntD)), none, none, none]) ?_ (by walk_at "le") (fun i x hx => ⟨_, rung2, ?_⟩) ?_)
    · rw [← places_nums]
      exact runi_enum (run_a (run_var rfl) run_a0)
    · have hxm := (nums_mem (List.mem_of_getElem? hx)).1
      refine run_iff (k := decide (x.2.t = t) && fitB x.2 so) (test_and (test_op (run_op (run_var rfl) run_int (opd_ixT rfl)) (run_var rfl) opb_eqS) fun _ => test_B (RunV.toD (run_call2 (x1 := x.2) (x2 := so) (rp_d (run_var rfl)) (rp_d (run_var rfl)) ⟨S, hR, hxm⟩))) (fun hk => ?_) (fun hk => run_next ?_)
      · refine run_append (i := 3) (ds := (((nums 0 S).take i).filter fun x => decide (x.2.t = t) && fitB x.2 so).map cntD) (d := cntD x) rfl ?_ (run_tupF (run_a (RunE.is (run_cb (run_a (RunL.toE (run_lc (vs := [6]) x.2.l limD (fun y => !decide (y = none)) limD (runi_tup (run_op (run_var rfl) run_int (opd_ixT rfl))) (by have := (hR.lims.2 _ hxm).1; omega) fun k y hy => ⟨_, rung_name (by decide), ?_, fun _ => run_var rfl⟩)) run_a0) call_lenL) (by rw [List.length_map]; rfl)) (run_a (run_var rfl) run_a0)) (by simp)) ?_
        · rw [List.length_map]
          have : (((nums 0 S).take i).filter fun x => decide (x.2.t = t) && fitB x.2 so).length ≤ 8 := Nat.le_trans (List.length_filter_le _ _) (by rw [List.length_take]; omega)
          omega
        · exact test_op (run_var rfl) run_non opb_notL
        · have e := take_filter (p := fun x => decide (x.2.t = t) && fitB x.2 so) (f := cntD) hx
          rw [if_pos hk] at e
          simp only [e]
          walk_at "le"
      · have e := take_filter (p := fun x => decide (x.2.t = t) && fitB x.2 so) (f := cntD) hx
        rw [if_neg (by rw [hk]; decide), List.append_nil] at e
        simp only [e]
        walk_at "le"
    · refine run_freeze 3 rfl ?_
      rw [List.take_length, ← fitRows_one]
      have hcs : ∀ y ∈ fitRows S t so, Sh 1 (cntD y) := fun y _ => .tup (ShA.cons .int (ShA.cons .int ShA.nil))
      have hsort : ((fitRows S t so).map cntD).mergeSort (PySem.W.dataLe false id) = (bestL S t so).map cntD := (List.map_mergeSort (r := cLe) (s := PySem.W.dataLe false id) (f := cntD) (l := fitRows S t so) fun a _ b _ => rfl).symm
      refine run_ret (run_if (k := !(fitRows S t so).isEmpty) (RunT.is (test_op (run_var rfl) (RunL.toE (run_lst run_a0 (by simp))) (opb_neD (Sh.lst (ShA.map hcs)).shaped (Sh.lst (m := 0) ShA.nil).shaped)) ?_) (fun hk => ?_) (fun hk => RunE.is run_non ?_)) fun B v q => q
      · cases fitRows S t so <;> simp [PyData.eqv, PyData.eqvAll]
      · have hne : bestL S t so ≠ [] := fun e => by
          have h := not_true_b hk
          have : (bestL S t so).length = (fitRows S t so).length := List.length_mergeSort _
          rw [e] at this
          cases hf : fitRows S t so with
          | nil => rw [hf] at h; cases h
          | cons a b => rw [hf] at this; cases this
        obtain ⟨x, hx⟩ : ∃ x, (bestL S t so).getLast? = some x := ⟨_, List.getLast?_eq_some_getLast hne⟩
        have hb : optD (bestB S t so) = .int (x.1 : Int) := by
          unfold bestB
          rw [hx]
          rfl
        rw [hb]
        refine run_op (RunE.is (run_op (RunL.toE (RunL.is (run_sorted (run_a (run_var rfl) run_a0) ?_ ?_ ?_) hsort)) (run_neg run_int) (opd_ixL (d := cntD x) (atI_last (by rw [List.getLast?_map, hx]; rfl)))) rfl) run_int (opd_ixT rfl)
        · exact PySem.W.AllAlike.of fun a b => by simp [PySem.W.alike, PySem.W.alikeAll]
        · exact PySem.W.Sortable.tuples fun b => ⟨_, _, rfl⟩
        · intro y hy
          obtain ⟨z, hz, rfl⟩ := List.mem_map.mp hy
          have := (hcs z hz).dep
          omega
      · have h := not_false_b hk
        have e : fitRows S t so = [] := List.isEmpty_iff.mp h
        unfold bestB bestL
        rw [e, List.mergeSort_nil]
        rfl⟩
theorem bestB_mem {S : List Ins} {t : Str} {s : Srt} {k : Nat} (h : bestB S t s = some k) : ∃ x ∈ fitRows S t s, x.1 = k := by
  unfold bestB at h
  obtain ⟨x, hx, e⟩ := Option.map_eq_some_iff.mp h
  exact ⟨x, List.mem_mergeSort.mp (List.mem_of_getLast? hx), e⟩
abbrev SpLSpecial (K : PySem.W.Frag) (d : Nat) : Sp := sp3 K (.d setD) (.d PyData.str) (.d Srt.D) (fun S t s => Rd S s ∧ s.dep ≤ d) (fun S t s B u => Dp K B u (.bool (specN bestB d S t s)))
theorem ok__law_special (T : Tb K mg) : ∀ d, FnOk P w K mg base CX0 (d + 2) T._law_special.f T._law_special.fd ["_law_instances", "_law_trait", "_law_sort_here"] (SpLSpecial K d)
  | 0 => ⟨fun _ _ _ _ ⟨_, _, _, _, _, _, x, _, _, _, _, _, ⟨_, z⟩, _⟩ => absurd z (Nat.not_le_of_gt (Srt.dep_pos x)), fun _ _ _ _ _ _ _ _ _ _ _ _ _ ⟨_, _, _, _, _, _, x, _, _, _, _, _, ⟨_, z⟩, _⟩ => absurd z (Nat.not_le_of_gt (Srt.dep_pos x))⟩
  | d + 1 =>
  have G__law_best := ok__law_best (P := P) (w := w) (base := base) T
  have G__law_special := ok__law_special T d
  fn3 T._law_special.F sc__law_special fun cdv A outer s H E hr => ⟨_, (pss_cons (ps_set (i := 3) sc__law_special.nd rfl (.inl rfl) (pe_call G__law_best (hr.mono (by omega)) rfl T._law_best.m T._law_best.F.kp T._law_best.b .nil pass0 (pa_cons (vr 0 rfl (.inl rfl)) (pa_cons (vr 1 rfl (.inl rfl)) (pa_cons (vr 2 rfl (.inl rfl)) pa_nil))))) (pss_cons (ps_if (pt_cmpR op_isNn (vr 3 rfl (.inl rfl)) pe_non (nomark _)) (pss_one (ps_ret pe_bl)) pss_nil) (pss_cons (ps_for PassesOwn.never rfl (pi_any (pe_ix (ix_K K rfl) (pe_ix (ix_K K rfl) (vr 0 rfl (.inl rfl)) (vr 3 rfl (.inl rfl)) (fun _ _ => rfl)) pe_int (fun _ _ => rfl))) (pg_tupK K rfl (n := 2) rfl (pgs_cons (pg_name (i := 4) sc__law_special.nd rfl (.inl rfl)) (pgs_cons (pg_name (i := 5) sc__law_special.nd rfl (.inl rfl)) pgs_nil))) (pss_one (ps_if (pt_not (pt_val (pe_call G__law_special (hr.mono (by omega)) rfl T._law_special.m T._law_special.F.kp T._law_special.b .nil pass0 (pa_cons (vr 0 rfl (.inl rfl)) (pa_cons (vr 4 rfl (.inl rfl)) (pa_cons (pe_ix (ix_K K rfl) (vr 2 rfl (.inl rfl)) (pe_op (op_plusK K rfl) (vr 5 rfl (.inl rfl)) pe_int) (fun _ _ => rfl)) pa_nil)))))) (pss_one (ps_ret pe_bl)) pss_nil))) (pss_one (ps_ret pe_bl))))), fun S t so ⟨hR, hd⟩ F hF => by
    walk_at "go"
    refine run_asgq (RunV.toD (run_call3 (x1 := S) (x2 := t) (x3 := so) (rp_d (run_var rfl)) (rp_d (run_var rfl)) (rp_d (run_var rfl)) hR)) ?_
    rw [specN]
    cases hc : bestB S t so with
    | none =>
      refine run_seq (run_iffT (test_op (a := .none) (run_var rfl) run_non opb_isN) (run_ret run_bl fun B v q => q))
    | some k =>
      obtain ⟨x, hx, hk⟩ := bestB_mem hc
      obtain ⟨q1, q2, q3, q4⟩ := fitRows_mem hx
      rw [hk] at q4
      simp only [q4]
      refine run_skip (test_op (a := .int (k : Int)) (run_var rfl) run_non (opb_isNV (k := true) (by simp))) ?_
      let g : Ask → Bool := fun a => match so.ps[a.p]? with
        | some p => specN bestB d S a.t p
        | none => false
      change RunS K F _ _ (ends0 fun B u => Dp K B u (.bool (x.2.a.all g)))
      refine run_seq (run_forAll (vs := [4, 5]) x.2.a Ask.D g (runi_tup (run_op (run_op (run_var rfl) (run_var rfl) (opd_ixT (set_at q4))) run_int (opd_ixT rfl))) (fun j a ha => ?_) (fun hall => ?_))
      · obtain ⟨p, hp⟩ := hR.get hx (List.mem_of_getElem? ha)
        have hpm := List.mem_of_getElem? hp
        have hga : g a = specN bestB d S a.t p := by
          show (match so.ps[a.p]? with
            | some p => specN bestB d S a.t p
            | none => false) = _
          rw [hp]
        refine ⟨_, rung2, fun hp => run_iffF (RunT.is (b := !g a) ?_ (by rw [hp]; rfl)) (run_next (by walk_at "le")), fun hp ha E' hE => run_iffT (RunT.is (b := !g a) ?_ (by rw [hp]; rfl)) (run_ret run_bl fun B v q => ?_)⟩
        case refine_3 =>
          rw [hE, ha]
          exact q
        all_goals
          rw [hga]
          refine test_not (test_B (RunV.toD (run_call3 (x1 := S) (x2 := a.t) (x3 := p) (rp_d (run_var rfl)) (rp_d (run_var rfl)) (rp_d ?_) ⟨hR.part hpm, by have := Srt.dep_lt hpm; omega⟩)))
          rw [← Srt.T_eq p]
          exact run_op (run_var rfl) (run_op (run_var rfl) run_int opd_plusI) (opd_ixT (part_at (by assumption)))
      · rw [hall]
        exact run_ret run_bl fun B v q => q⟩
end Ts
set_option Elab.async false
set_option linter.all false
set_option maxRecDepth 100000
set_option maxHeartbeats 2000000
/-! The plain law: what the program computes answers as the law asks. -/
namespace Ts
open PySem PySem.Spec PyProof.Rows L2
def cntL (l : List (Option Str)) : Nat := (l.filter fun x => !decide (x = none)).length
theorem cntL_none (l : List (Option Str)) : cntL (none :: l) = cntL l := by simp [cntL]
theorem cntL_some (x : Str) (l : List (Option Str)) : cntL (some x :: l) = cntL l + 1 := by simp [cntL]
theorem lims_cnt : ∀ {xs ys : List (Option Str)}, xs.length = ys.length → limsLe xs ys = true → cntL ys ≤ cntL xs ∧ (cntL ys = cntL xs → xs = ys)
  | [], [], _, _ => ⟨Nat.le_refl _, fun _ => rfl⟩
  | [], _ :: _, h, _ => by simp at h
  | _ :: _, [], h, _ => by simp at h
  | x :: xs, y :: ys, h, hl => by
    rw [limsLe, Bool.and_eq_true] at hl
    obtain ⟨h1, h2⟩ := lims_cnt (by simpa using h) hl.2
    cases y with
    | none =>
      cases x with
      | none =>
        rw [cntL_none, cntL_none]
        exact ⟨h1, fun e => by rw [h2 e]⟩
      | some x =>
        rw [cntL_none, cntL_some]
        exact ⟨by omega, fun e => by omega⟩
    | some y =>
      have e : x = some y := by simpa using hl.1
      subst e
      rw [cntL_some, cntL_some]
      exact ⟨by omega, fun e => by rw [h2 (by omega)]⟩
theorem more_cnt {i j : Ins} (hl : i.l.length = j.l.length) (h : moreB i j = true) : cnt j < cnt i := by
  unfold moreB at h
  rw [Bool.and_eq_true] at h
  obtain ⟨h1, h2⟩ := lims_cnt hl h.2
  have hne : i.l ≠ j.l := by simpa using h.1
  have h1' : cnt j ≤ cnt i := h1
  rcases Nat.lt_or_ge (cnt j) (cnt i) with q | q
  · exact q
  · exact absurd (h2 (Nat.le_antisymm h1' q)) hne
theorem fit_over : ∀ {ns : List Str} {xs ys : List (Option Str)}, xs.length = ns.length → ys.length = ns.length → limsFit xs ns = true → limsFit ys ns = true → limsOver xs ys = true
  | [], [], [], _, _, _, _ => rfl
  | [], _ :: _, _, h, _, _, _ => by simp at h
  | [], [], _ :: _, _, h, _, _ => by simp at h
  | _ :: _, [], _, h, _, _, _ => by simp at h
  | _ :: _, _ :: _, [], _, h, _, _ => by simp at h
  | n :: ns, x :: xs, y :: ys, h1, h2, h3, h4 => by
    rw [limsFit, Bool.and_eq_true] at h3 h4
    rw [limsOver, fit_over (by simpa using h1) (by simpa using h2) h3.2 h4.2, Bool.and_true]
    cases x with
    | none => rfl
    | some x =>
      cases y with
      | none => simp
      | some y =>
        have e1 : n = x := by simpa [limFit] using h3.1
        have e2 : n = y := by simpa [limFit] using h4.1
        subst e1 e2
        simp
theorem nums_lt : ∀ (S : List Ins) (n : Nat), (nums n S).Pairwise fun x y => x.1 < y.1
  | [], _ => by rw [nums]; exact .nil
  | i :: S, n => by
    rw [nums]
    exact .cons (fun y hy => by have := (nums_mem hy).2.1; show n < y.1; omega) (nums_lt S (n + 1))
theorem nums_of : ∀ {S : List Ins} {n k : Nat} {i : Ins}, S[k]? = some i → (n + k, i) ∈ nums n S
  | [], _, _, _, h => by simp at h
  | j :: S, n, 0, i, h => by
    have e : j = i := by simpa using h
    subst e
    rw [nums]
    exact List.mem_cons_self
  | j :: S, n, k + 1, i, h => by
    rw [nums]
    have := nums_of (n := n + 1) (show S[k]? = some i by simpa using h)
    rw [show n + (k + 1) = n + 1 + k by omega]
    exact List.mem_cons_of_mem _ this
theorem fitRows_of {S : List Ins} {t : Str} {s : Srt} {k : Nat} {i : Ins} (h : S[k]? = some i) (ht : i.t = t) (hf : fitB i s = true) : (k, i) ∈ fitRows S t s := by
  unfold fitRows
  refine List.mem_filter.mpr ⟨List.mem_filter.mpr ⟨?_, by simpa using ht⟩, hf⟩
  have := nums_of (n := 0) h
  rw [Nat.zero_add] at this
  exact this
theorem fitRows_lt (S : List Ins) (t : Str) (s : Srt) : (fitRows S t s).Pairwise fun x y => x.1 < y.1 := ((nums_lt S 0).filter _).filter _
theorem pairs_nil {q : Ins → Ins → Bool} {S : List Ins} : pairsOf q S = [] ↔ ∀ x ∈ nums 0 S, ∀ y ∈ nums 0 S, x.1 < y.1 → q x.2 y.2 = false := by
  unfold pairsOf
  rw [List.flatMap_eq_nil_iff]
  constructor
  · intro h x hx y hy hlt
    have h1 := h x hx
    rw [List.map_eq_nil_iff, List.filter_eq_nil_iff] at h1
    have h2 := h1 y hy
    rw [decide_eq_true hlt, Bool.true_and] at h2
    simpa using h2
  · intro h x hx
    rw [List.map_eq_nil_iff, List.filter_eq_nil_iff]
    intro y hy
    by_cases hlt : x.1 < y.1
    · rw [h x hx y hy hlt]
      simp
    · simp [hlt]
section
variable {S : List Ins} {t : Str} {s : Srt}
theorem rows_in {x : Nat × Ins} (h : x ∈ fitRows S t s) : x ∈ nums 0 S := (List.mem_filter.mp (List.mem_filter.mp h).1).1
theorem row_root {x : Nat × Ins} (h : x ∈ fitRows S t s) : x.2.r = s.n ∧ limsFit x.2.l (s.ps.map Srt.n) = true := by
  have := (fitRows_mem h).2.2.1
  unfold fitB at this
  rw [Bool.and_eq_true] at this
  exact ⟨of_decide_eq_true this.1, this.2⟩
theorem row_len (hR : Rd S s) {x : Nat × Ins} (h : x ∈ fitRows S t s) : x.2.l.length = s.ps.length := hR.arity (fitRows_mem h).1 (row_root h).1
theorem rows_over (hR : Rd S s) {x y : Nat × Ins} (hx : x ∈ fitRows S t s) (hy : y ∈ fitRows S t s) : overB x.2 y.2 = true := by
  unfold overB
  rw [(fitRows_mem hx).2.1, (fitRows_mem hy).2.1, (row_root hx).1, (row_root hy).1, decide_eq_true rfl, decide_eq_true rfl]
  exact fit_over (ns := s.ps.map Srt.n) (by rw [List.length_map]; exact row_len hR hx) (by rw [List.length_map]; exact row_len hR hy) (row_root hx).2 (row_root hy).2
theorem rows_more (hR : Rd S s) (hL : Loose S) {x y : Nat × Ins} (hx : x ∈ fitRows S t s) (hy : y ∈ fitRows S t s) (hne : x.1 ≠ y.1) : moreB x.2 y.2 = true ∨ moreB y.2 x.2 = true := by
  have key : ∀ {x y : Nat × Ins}, x ∈ fitRows S t s → y ∈ fitRows S t s → x.1 < y.1 → moreB x.2 y.2 = true ∨ moreB y.2 x.2 = true := fun {x y} hx hy hlt => by
    have h1 := pairs_nil.mp hL x (rows_in hx) y (rows_in hy) hlt
    unfold tangB at h1
    rw [rows_over hR hx hy, Bool.true_and] at h1
    cases hm : moreB x.2 y.2 with
    | true => exact .inl rfl
    | false =>
      cases hm2 : moreB y.2 x.2 with
      | true => exact .inr rfl
      | false =>
        rw [hm, hm2] at h1
        cases h1
  rcases Nat.lt_or_gt_of_ne hne with h | h
  · exact key hx hy h
  · exact (key hy hx h).symm
theorem choose_max (hR : Rd S s) {k : Nat} (h : chosenB S t s = some k) : ∃ x ∈ fitRows S t s, x.1 = k ∧ ∀ y ∈ fitRows S t s, y.1 = k ∨ cnt y.2 < cnt x.2 := by
  unfold chosenB choose at h
  obtain ⟨x, hx, e⟩ := Option.map_eq_some_iff.mp h
  have hm := List.mem_of_find?_eq_some hx
  have hp := List.find?_some hx
  refine ⟨x, hm, e, fun y hy => ?_⟩
  have := List.all_eq_true.mp hp y hy
  rw [Bool.or_eq_true] at this
  rcases this with q | q
  · exact .inl (by rw [← e]; exact of_decide_eq_true q)
  · exact .inr (more_cnt (by rw [row_len hR hm, row_len hR hy]) q)
theorem ex_max : ∀ {l : List (Nat × Ins)}, l ≠ [] → ∃ m ∈ l, ∀ y ∈ l, cnt y.2 ≤ cnt m.2
  | [], h => absurd rfl h
  | [x], _ => ⟨x, List.mem_cons_self, fun y hy => by
    have : y = x := by simpa using hy
    rw [this]
    exact Nat.le_refl _⟩
  | x :: z :: l, _ => by
    obtain ⟨m, hm, h⟩ := ex_max (l := z :: l) (by simp)
    rcases Nat.le_total (cnt x.2) (cnt m.2) with q | q
    · refine ⟨m, List.mem_cons_of_mem _ hm, fun y hy => ?_⟩
      cases hy with
      | head => exact q
      | tail _ hy => exact h y hy
    · refine ⟨x, List.mem_cons_self, fun y hy => ?_⟩
      cases hy with
      | head => exact Nat.le_refl _
      | tail _ hy => exact Nat.le_trans (h y hy) q
theorem choose_none (hR : Rd S s) (hL : Loose S) (h : chosenB S t s = none) : fitRows S t s = [] := by
  by_cases hne : fitRows S t s = []
  · exact hne
  · exfalso
    obtain ⟨m, hm, hmax⟩ := ex_max hne
    unfold chosenB choose at h
    rw [Option.map_eq_none_iff, List.find?_eq_none] at h
    refine h m hm ?_
    show ((fitRows S t s).all fun y => decide (y.1 = m.1) || moreB m.2 y.2) = true
    rw [List.all_eq_true]
    intro y hy
    by_cases e : y.1 = m.1
    · rw [decide_eq_true e]
      rfl
    · rcases rows_more hR hL hm hy (fun z => e z.symm) with q | q
      · rw [q, Bool.or_true]
      · have := more_cnt (by rw [row_len hR hm, row_len hR hy]) q
        have := hmax y hy
        omega
theorem cLe_iff (a b : Nat × Ins) : cLe a b = decide ((cnt a.2 : Int) < (cnt b.2 : Int) ∨ ((cnt a.2 : Int) = (cnt b.2 : Int) ∧ (a.1 : Int) ≤ (b.1 : Int))) := by
  have := congrFun (congrFun (PySem.W.dataLe_ii (fun x : Nat × Ins => (cnt x.2 : Int)) (fun x => (x.1 : Int))) a) b
  exact this
theorem best_eq (hR : Rd S s) (hL : Loose S) : bestB S t s = chosenB S t s := by
  cases hc : chosenB S t s with
  | none =>
    have e := choose_none hR hL hc
    unfold bestB bestL
    rw [e, List.mergeSort_nil]
    rfl
  | some k =>
    obtain ⟨x, hx, hk, hmax⟩ := choose_max hR hc
    have hne : bestL S t s ≠ [] := fun e => by
      have : x ∈ bestL S t s := List.mem_mergeSort.mpr hx
      rw [e] at this
      cases this
    obtain ⟨z, hz⟩ : ∃ z, (bestL S t s).getLast? = some z := ⟨_, List.getLast?_eq_some_getLast hne⟩
    have hzm : z ∈ fitRows S t s := List.mem_mergeSort.mp (List.mem_of_getLast? hz)
    have hsort : (bestL S t s).Pairwise fun a b => cLe a b = true := List.pairwise_mergeSort (fun a b c h1 h2 => by
      rw [cLe_iff] at h1 h2 ⊢
      have h1 := of_decide_eq_true h1
      have h2 := of_decide_eq_true h2
      exact decide_eq_true (by omega)) (fun a b => by
      rw [cLe_iff, cLe_iff, Bool.or_eq_true]
      rcases Int.lt_trichotomy (cnt a.2 : Int) (cnt b.2 : Int) with q | q | q
      · exact .inl (decide_eq_true (.inl q))
      · rcases Int.le_total (a.1 : Int) (b.1 : Int) with q2 | q2
        · exact .inl (decide_eq_true (.inr ⟨q, q2⟩))
        · exact .inr (decide_eq_true (.inr ⟨q.symm, q2⟩))
      · exact .inr (decide_eq_true (.inl q))) _
    obtain ⟨l', hl'⟩ := List.getLast?_eq_some_iff.mp hz
    rw [hl'] at hsort
    have hxz : cnt x.2 ≤ cnt z.2 := by
      have hxm : x ∈ l' ++ [z] := by rw [← hl']; exact List.mem_mergeSort.mpr hx
      rcases List.mem_append.mp hxm with q | q
      · have := (List.pairwise_append.mp hsort).2.2 x q z List.mem_cons_self
        rw [cLe_iff] at this
        have := of_decide_eq_true this
        omega
      · have : x = z := by simpa using q
        rw [this]
        exact Nat.le_refl _
    unfold bestB
    rw [hz]
    rcases hmax z hzm with q | q
    · exact congrArg some q
    · omega
end
theorem specN_best : ∀ (d : Nat) {S : List Ins} {t : Str} {s : Srt}, Rd S s → Loose S → specN bestB d S t s = specN chosenB d S t s
  | 0, _, _, _, _, _ => rfl
  | d + 1, S, t, s, hR, hL => by
    unfold specN
    rw [best_eq hR hL]
    cases hc : chosenB S t s with
    | none => rfl
    | some k =>
      simp only
      cases hk : S[k]? with
      | none => rfl
      | some i =>
        simp only
        congr 1
        funext a
        cases hp : s.ps[a.p]? with
        | none => rfl
        | some p => exact specN_best d (hR.part (List.mem_of_getElem? hp)) hL
theorem spec_holds : ∀ (d : Nat) {S : List Ins} {t : Str} {s : Srt}, Rd S s → specN chosenB d S t s = true → standsN d S t s = true
  | 0, _, _, _, _, h => h
  | d + 1, S, t, s, hR, h => by
    unfold specN at h
    cases hc : chosenB S t s with
    | none => rw [hc] at h; cases h
    | some k =>
      rw [hc] at h
      obtain ⟨x, hx, hk⟩ := choose_mem hc
      obtain ⟨q1, q2, q3, q4⟩ := fitRows_mem hx
      rw [hk] at q4
      simp only [q4] at h
      unfold standsN
      rw [List.any_eq_true]
      refine ⟨x, hx, ?_⟩
      rw [List.all_eq_true] at h ⊢
      intro a ha
      have h := h a ha
      cases hp : s.ps[a.p]? with
      | none => rw [hp] at h; cases h
      | some p =>
        rw [hp] at h
        exact spec_holds d (hR.part (List.mem_of_getElem? hp)) h
theorem holds_same : ∀ (d : Nat) {S : List Ins} {t : Str} {s : Srt}, Rd S s → pairsOf overB S = [] → specN chosenB d S t s = standsN d S t s
  | 0, _, _, _, _, _ => rfl
  | d + 1, S, t, s, hR, hO => by
    have hsub : ∀ x ∈ fitRows S t s, ∀ y ∈ fitRows S t s, x.1 < y.1 → False := fun x hx y hy hlt => by
      have := pairs_nil.mp hO x (rows_in hx) y (rows_in hy) hlt
      rw [rows_over hR hx hy] at this
      cases this
    unfold specN standsN
    cases hr : fitRows S t s with
    | nil =>
      have : chosenB S t s = none := by
        unfold chosenB
        rw [hr]
        rfl
      rw [this]
      rfl
    | cons x l =>
      have hl : l = [] := by
        cases l with
        | nil => rfl
        | cons y l =>
          exfalso
          have hp := fitRows_lt S t s
          rw [hr] at hp
          have hlt := (List.pairwise_cons.mp hp).1 y List.mem_cons_self
          exact hsub x (by rw [hr]; exact List.mem_cons_self) y (by rw [hr]; exact List.mem_cons_of_mem _ List.mem_cons_self) hlt
      subst hl
      have hx : x ∈ fitRows S t s := by rw [hr]; exact List.mem_cons_self
      have hc : chosenB S t s = some x.1 := by
        unfold chosenB
        rw [hr]
        unfold choose
        simp
      rw [hc]
      simp only [(fitRows_mem hx).2.2.2]
      rw [List.any_cons, List.any_nil, Bool.or_false]
      congr 1
      funext a
      cases hp : s.ps[a.p]? with
      | none => rfl
      | some p => exact holds_same d (hR.part (List.mem_of_getElem? hp)) hO
theorem dead_iff {S : List Ins} {t : Str} {s : Srt} (hR : Rd S s) (hL : Loose S) (ht : NmOk t) (hd : s.dep ≤ 8) : PyData.eqv (.tuple ((deadL S t s).map aD)) (.tuple [aD (t, s)]) = decide (chosenB S t s = none) := by
  have hnb : ∀ l : List (Str × Srt), nb (.tuple (l.map aD)) = true := fun l => by
    rw [nb]
    exact nbAll_of fun x hx => by
      obtain ⟨y, _, rfl⟩ := List.mem_map.mp hx
      simp [nb, nbAll, Srt.nb_T]
  have hiff := eqv_iff _ _ (hnb (deadL S t s)) (hnb [(t, s)])
  rw [List.map_cons, List.map_nil] at hiff
  cases hc : chosenB S t s with
  | none =>
    have e := choose_none hR hL hc
    have he : endsN 8 S t s = [(t, s)] := by
      unfold endsN
      rw [e]
      rfl
    have hdl : deadL S t s = [(t, s)] := by
      unfold deadL
      rw [he, List.mergeSort_singleton]
      rfl
    rw [decide_eq_true rfl]
    exact hiff.mpr (by rw [hdl]; rfl)
  | some k =>
    rw [decide_eq_false (by simp), ← Bool.not_eq_true]
    intro h
    have h := hiff.mp h
    injection h with h
    obtain ⟨x, hx, _⟩ := choose_mem hc
    have hne : (fitRows S t s).isEmpty = false := by
      cases hf : fitRows S t s with
      | nil =>
        unfold chosenB at hc
        have : x ∈ fitRows S t s := hx
        rw [hf] at this
        cases this
      | cons a b => rfl
    have hm : ∃ y ∈ deadL S t s, aD y = aD (t, s) := by
      have : aD (t, s) ∈ (deadL S t s).map aD := by rw [h]; exact List.mem_cons_self
      obtain ⟨y, hy, e⟩ := List.mem_map.mp this
      exact ⟨y, hy, e⟩
    obtain ⟨y, hy, e⟩ := hm
    have e2 : y.2 = s := by
      injection e with e
      injection e with e1 e2
      injection e2 with e2 _
      exact Srt.T_inj e2
    have hy' : y ∈ endsN 8 S t s := by
      unfold deadL at hy
      rw [← List.take_length (l := (endsN 8 S t s).mergeSort aLe)] at hy
      exact List.mem_mergeSort.mp (dd_sub _ _ hy)
    have := (ends_mem hR ht y hy').2.2.2 hne
    rw [e2] at this
    omega
/-! ### the set turned round -/
theorem limsOver_symm : ∀ xs ys : List (Option Str), limsOver xs ys = limsOver ys xs
  | [], [] => rfl
  | [], _ :: _ => rfl
  | _ :: _, [] => rfl
  | x :: xs, y :: ys => by
    rw [limsOver, limsOver, limsOver_symm xs ys]
    congr 1
    cases x <;> cases y <;> simp [eq_comm]
theorem overB_symm (i j : Ins) : overB i j = overB j i := by
  unfold overB
  rw [limsOver_symm]
  congr 1
  congr 1
  · exact decide_eq_decide.mpr eq_comm
  · exact decide_eq_decide.mpr eq_comm
theorem tangB_symm (i j : Ins) : tangB i j = tangB j i := by
  unfold tangB
  rw [overB_symm, Bool.and_comm (!moreB i j)]
theorem loose_rev {S : List Ins} (h : Loose S) : Loose S.reverse := by
  refine pairs_nil.mpr fun x hx y hy hlt => ?_
  obtain ⟨_, _, h1⟩ := nums_mem hx
  obtain ⟨_, _, h2⟩ := nums_mem hy
  rw [Nat.sub_zero] at h1 h2
  have l1 := (List.getElem?_eq_some_iff.mp h1).1
  have l2 := (List.getElem?_eq_some_iff.mp h2).1
  rw [List.length_reverse] at l1 l2
  rw [List.getElem?_reverse l1] at h1
  rw [List.getElem?_reverse l2] at h2
  have m1 := nums_of (n := 0) h1
  have m2 := nums_of (n := 0) h2
  rw [tangB_symm]
  exact pairs_nil.mp h (0 + (S.length - 1 - y.1), y.2) m2 (0 + (S.length - 1 - x.1), x.2) m1 (by show 0 + (S.length - 1 - y.1) < 0 + (S.length - 1 - x.1); omega)
theorem Rd.rev {S : List Ins} {s : Srt} (h : Rd S s) : Rd S.reverse s := ⟨by rw [List.length_reverse]; exact h.len, by
  obtain ⟨w, a, b, c, d⟩ := h.ok
  exact ⟨w, a, fun i hi => b i (List.mem_reverse.mp hi), c, d⟩⟩
theorem rows_rev {S : List Ins} {t : Str} {s : Srt} {x : Nat × Ins} (h : x ∈ fitRows S t s) : ∃ k, (k, x.2) ∈ fitRows S.reverse t s := by
  obtain ⟨q1, q2, q3, _⟩ := fitRows_mem h
  obtain ⟨k, hk⟩ := List.getElem?_of_mem (List.mem_reverse.mpr q1)
  exact ⟨k, fitRows_of hk q2 q3⟩
theorem chosen_rev {S : List Ins} {t : Str} {s : Srt} (hR : Rd S s) (hL : Loose S) : (chosenB S.reverse t s = none ∧ chosenB S t s = none) ∨ ∃ k k' i, chosenB S.reverse t s = some k' ∧ chosenB S t s = some k ∧ S.reverse[k']? = some i ∧ S[k]? = some i := by
  have hR' := hR.rev
  have hL' := loose_rev hL
  cases h1 : chosenB S t s with
  | none =>
    have e := choose_none hR hL h1
    cases h2 : chosenB S.reverse t s with
    | none => exact .inl ⟨rfl, rfl⟩
    | some k' =>
      obtain ⟨x, hx, _⟩ := choose_mem h2
      obtain ⟨k, hk⟩ := rows_rev hx
      rw [List.reverse_reverse, e] at hk
      cases hk
  | some k =>
    obtain ⟨x, hx, hk, hmax⟩ := choose_max hR h1
    cases h2 : chosenB S.reverse t s with
    | none =>
      have e := choose_none hR' hL' h2
      obtain ⟨k, hk⟩ := rows_rev hx
      rw [e] at hk
      cases hk
    | some k' =>
      obtain ⟨x', hx', hk', hmax'⟩ := choose_max hR' h2
      have m := (fitRows_mem hx).2.2.2
      have m' := (fitRows_mem hx').2.2.2
      rw [hk] at m
      rw [hk'] at m'
      refine .inr ⟨k, k', x.2, rfl, rfl, ?_, m⟩
      obtain ⟨j', hj'⟩ := rows_rev hx
      obtain ⟨j, hj⟩ := rows_rev hx'
      rw [List.reverse_reverse] at hj
      rcases hmax' _ hj' with q | q
      · have q : j' = k' := q
        subst q
        exact (fitRows_mem hj').2.2.2
      · rcases hmax _ hj with q2 | q2
        · have q2 : j = k := q2
          subst q2
          have e := (fitRows_mem hj).2.2.2
          have e : S[j]? = some x'.2 := e
          rw [m] at e
          rw [m']
          exact e.symm
        · have q : cnt x.2 < cnt x'.2 := q
          have q2 : cnt x'.2 < cnt x.2 := q2
          omega
theorem spec_rev : ∀ (d : Nat) {S : List Ins} {t : Str} {s : Srt}, Rd S s → Loose S → specN chosenB d S.reverse t s = specN chosenB d S t s
  | 0, _, _, _, _, _ => rfl
  | d + 1, S, t, s, hR, hL => by
    unfold specN
    rcases chosen_rev (t := t) hR hL with ⟨h1, h2⟩ | ⟨k, k', i, h1, h2, h3, h4⟩
    · rw [h1, h2]
    · rw [h1, h2]
      simp only [h3, h4]
      congr 1
      funext a
      cases hp : s.ps[a.p]? with
      | none => rfl
      | some p => exact spec_rev d (hR.part (List.mem_of_getElem? hp)) hL
end Ts
set_option Elab.async false
set_option linter.all false
set_option maxRecDepth 100000
set_option maxHeartbeats 2000000
/-! What may draw: the draws' list changes, nothing else does. -/
namespace Ts
open PySem PySem.Spec PyProof.Rows L2
structure GrowT (tw : Option Addr) (B H B' H' : Hp) : Prop where
  bb : Same B B'
  bh : Same B' H'
  hh : ∀ a o, tw ≠ some a → H a = some o → H' a = some o
  new : ∀ a, H a ≠ none → B' a = B a
  kp : ∀ a, H a ≠ none → H' a ≠ none
section
variable {tw : Option Addr} {B H B1 H1 B2 H2 B' H' : Hp}
theorem Grow.toT (g : Grow B H B' H') : GrowT tw B H B' H' := ⟨g.bb, g.bh, fun a o _ h => g.hh a o h, g.new, fun a h => by
  obtain ⟨o, ho⟩ := Option.ne_none_iff_exists'.mp h
  rw [g.hh a o ho]
  simp⟩
theorem GrowT.trans (a : GrowT tw B H B1 H1) (b : GrowT tw B1 H1 B2 H2) : GrowT tw B H B2 H2 :=
  ⟨a.bb.trans b.bb, b.bh, fun x o t h => b.hh x o t (a.hh x o t h), fun x hx => by rw [b.new x (a.kp x hx), a.new x hx], fun x hx => b.kp x (a.kp x hx)⟩
theorem GrowT.freeze {p : Addr} {o : HO} (g : GrowT tw B H B' H') (hp : H p = none) (hb : B' p = none) (h' : H' p = some o) : GrowT tw B H (upd B' p o) H' := by
  have bp : B p = none := by
    cases e : B p with
    | none => rfl
    | some u => rw [g.bb p u e] at hb; cases hb
  refine ⟨g.bb.trans (Same.new hb), fun b u q => ?_, g.hh, fun a ha => ?_, g.kp⟩
  · by_cases e : b = p
    · subst e
      rw [upd_same] at q
      rw [h']
      exact q
    · rw [upd_ne e] at q
      exact g.bh b u q
  · rw [upd_ne (fun e => ha (by rw [e]; exact hp))]
    exact g.new a ha
end
/-- how the draws' list stands -/
def TwS (F : Fx) (n : Nat) (H : Hp) : Prop := ∀ p, F.tw = some p → ∃ ns : List Int, H p = some (.lst (ns.map V.int)) ∧ TwOk F.m n ns
def tkE (n : Nat) : Option Ent → Option Ent
  | some (.twn _) => some (.twn n)
  | e => e
def tk (n : Nat) : PEnv → PEnv
  | [] => []
  | e :: r => tkE n e :: tk n r
theorem tk_len (n : Nat) : ∀ r : PEnv, (tk n r).length = r.length
  | [] => rfl
  | e :: r => by rw [tk, List.length_cons, tk_len n r, List.length_cons]
theorem tk_get {n : Nat} : ∀ {r : PEnv} {i : Nat}, (tk n r)[i]? = (r[i]?).map (tkE n)
  | [], i => by simp [tk]
  | e :: r, 0 => by simp [tk]
  | e :: r, i + 1 => by rw [tk, List.getElem?_cons_succ, List.getElem?_cons_succ, tk_get]
theorem TwOk.mono {m n n' : Nat} {ns : List Int} (h : TwOk m n ns) (q : n ≤ n') : TwOk m n' ns := by
  obtain ⟨z, r, e, l, a, b⟩ := h
  exact ⟨z, r, e, l, a, by omega⟩
section
variable {K : PySem.W.Frag} {F : Fx} {B H B' H' : Hp} {s : L2.St} {r : PEnv}
theorem EnvOk.growT {n : Nat} (h : EnvOk K F B H s r) (g : GrowT F.tw B H B' H') (ht : TwS F n H') : EnvOk K F B' H' s (tk n r) := by
  have hne : ∀ a, F.He a ≠ none → H a ≠ none := fun a ha => by
    by_cases t : F.tw = some a
    · exact (h.twin a t).2
    · obtain ⟨o, ho⟩ := Option.ne_none_iff_exists'.mp ha
      rw [h.keep a o ho t]
      simp
  refine ⟨g.bh, h.bb.trans g.bb, h.eh, fun a ha => by rw [g.new a (hne a ha), h.new a ha], fun a o e t => g.hh a o t (h.keep a o e t), fun p e => ?_, by rw [tk_len]; exact h.len, fun i e q => ?_, fun i j di dj p qi qj si sj => ?_⟩
  · obtain ⟨a, b⟩ := h.twin p e
    exact ⟨by rw [g.new p b]; exact a, g.kp p b⟩
  · rw [tk_get] at q
    obtain ⟨e0, q0, q1⟩ := Option.map_eq_some_iff.mp q
    cases e0 with
    | none => cases q1
    | some e0 =>
      obtain ⟨v, a, b⟩ := h.ent i e0 q0
      cases e0 with
      | twn m =>
        cases q1
        obtain ⟨p, ns, e1, b1, b2, b3, b4⟩ := b
        obtain ⟨ns', c1, c2⟩ := ht p b2
        exact ⟨v, a, p, ns', e1, by rw [g.new p (by rw [b3]; simp)]; exact b1, b2, c1, c2⟩
      | d x => cases q1; exact ⟨v, a, dp_mono g.bb x v b⟩
      | own ds =>
        cases q1
        obtain ⟨p, xs, e1, b1, b2, b3, b4, b5⟩ := b
        exact ⟨v, a, p, xs, e1, by rw [g.new p (by rw [b4]; simp)]; exact b1, b2, b3, g.hh _ _ b3 b4, dpAll_mono g.bb _ _ b5⟩
      | dct kvs => cases q1; exact ⟨v, a, IsDct.mono g.bb b⟩
      | wld x => cases q1; exact ⟨v, a, dp_mono g.bb x v b.1, b.2.mono g.bb⟩
      | lw x => cases q1; exact ⟨v, a, LwOk.mono g.bb b⟩
  · have own : ∀ {k : Nat} {dk : List PyData}, (tk n r)[k]? = some (some (.own dk)) → r[k]? = some (some (.own dk)) := fun {k dk} z => by
      rw [tk_get] at z
      obtain ⟨e0, q0, q1⟩ := Option.map_eq_some_iff.mp z
      cases e0 with
      | none => cases q1
      | some e0 =>
        cases e0 with
        | own ds => cases q1; exact q0
        | _ => cases q1
    exact h.apart i j di dj p (own qi) (own qj) si sj
theorem TwS.of {n : Nat} {i : Nat} (h : EnvOk K F B H s r) (hw : r[i]? = some (some (.twn n))) (g : Grow B H B' H') : TwS F n H' := fun p hp => by
  obtain ⟨v, a, p2, ns, e1, b1, b2, b3, b4⟩ := h.ent i _ hw
  rw [hp] at b2
  cases b2
  exact ⟨ns, g.hh _ _ b3, b4⟩
end

section
variable (K : PySem.W.Frag) (F : Fx)
def RunX (te : TE) (r : PEnv) (n : Nat) (P : Hp → V → Prop) : Prop := ∀ s B H, EnvOk K F B H s r → ∀ Q : VK, (∀ v B' H', GrowT F.tw B H B' H' → TwS F n H' → P B' v → Q v H') → te s H Q
def RunD (te : TE) (r : PEnv) (n : Nat) (p : PyData → Prop) : Prop := RunX K F te r n (fun B v => ∃ d, p d ∧ Dp K B v d)
def RunDA (ta : TA) (r : PEnv) (n : Nat) (p : List PyData → Prop) : Prop := ∀ s B H, EnvOk K F B H s r → ∀ Q : List V → Hp → Prop, (∀ vs B' H' ds, GrowT F.tw B H B' H' → TwS F n H' → p ds → DpAll K B' vs ds → Q vs H') → ta s H Q
def RunDT (tt : TT) (r : PEnv) (n : Nat) (p : Bool → Prop) : Prop := ∀ s B H, EnvOk K F B H s r → ∀ Q : Bool → Hp → Prop, (∀ b B' H', GrowT F.tw B H B' H' → TwS F n H' → p b → Q b H') → tt s H Q
end
section
variable {K : PySem.W.Frag} {F : Fx} {r r1 r2 : PEnv} {te ta tb : TE} {tt tu : TT} {d a b c : PyData} {P P' : Hp → V → Prop} {ds es : List PyData} {t u : TS} {E : Pst} {n n1 n2 n3 i : Nat} {p pa pb : PyData → Prop} {pl : List PyData → Prop} {q q2 : Bool → Prop}
theorem RunX.imp (h : RunX K F te r n P) (z : ∀ B v, P B v → P' B v) : RunX K F te r n P' := fun s B H ok Q k => h s B H ok Q fun v B' H' g t w => k v B' H' g t (z _ _ w)
theorem TwS.mono {H : Hp} (h : TwS F n H) (q : n ≤ n1) : TwS F n1 H := fun p hp => let ⟨ns, a, b⟩ := h p hp; ⟨ns, a, b.mono q⟩
theorem RunX.up (h : RunX K F te r n P) (z : n ≤ n1) : RunX K F te r n1 P := fun s B H ok Q k => h s B H ok Q fun v B' H' g t w => k v B' H' g (t.mono z) w
theorem RunD.imp {p' : PyData → Prop} (h : RunD K F te r n p) (z : ∀ d, p d → p' d) : RunD K F te r n p' := RunX.imp h fun B v ⟨d, a, b⟩ => ⟨d, z d a, b⟩
theorem RunD.up (h : RunD K F te r n p) (z : n ≤ n1) : RunD K F te r n1 p := RunX.up h z
theorem RunDT.up (h : RunDT K F tt r n q) (z : n ≤ n1) : RunDT K F tt r n1 q := fun s B H ok Q k => h s B H ok Q fun v B' H' g t w => k v B' H' g (t.mono z) w
theorem rx_pure (h : RunV K F te r P) (hw : r[i]? = some (some (.twn n))) : RunX K F te r n P := fun s B H ok Q k => h s B H ok Q fun v B' H' g w => k v B' H' g.toT (TwS.of ok hw g) w
theorem rd_pure (h : RunE K F te r d) (hw : r[1]? = some (some (.twn n))) : RunD K F te r n (fun x => x = d) := fun s B H ok Q k => h s B H ok Q fun v B' H' g w => k v B' H' g.toT (TwS.of ok hw g) ⟨d, rfl, w⟩
theorem rda_pure {ta : TA} (h : RunA K F ta r ds) (hw : r[1]? = some (some (.twn n))) : RunDA K F ta r n (fun x => x = ds) := fun s B H ok Q k => h s B H ok Q fun v B' H' g w => k v B' H' ds g.toT (TwS.of ok hw g) rfl w
theorem rdt_pure {k : Bool} (h : RunT K F tt r k) (hw : r[1]? = some (some (.twn n))) : RunDT K F tt r n (fun x => x = k) := fun s B H ok Q z => h s B H ok Q fun B' H' g => z k B' H' g.toT (TwS.of ok hw g) rfl
theorem rd_op {rr : R2} (ha : RunD K F ta r n1 pa) (hb : RunD K F tb (tk n1 r) n2 pb) (ho : ∀ a b, pa a → pb b → ∃ d, OpD K rr a b d ∧ p d) : RunD K F (tOp rr ta tb) r n2 p := fun s B H ok Q k =>
  ha s B H ok _ fun x B1 H1 g1 t1 ⟨a, pa', dx⟩ => hb s B1 H1 (ok.growT g1 t1) _ fun y B2 H2 g2 t2 ⟨b, pb', dy⟩ => by
    obtain ⟨d, ho', hd⟩ := ho a b pa' pb'
    refine ho' B2 H2 x y g2.bh (dp_mono g2.bb _ _ dx) dy Q fun v B3 H3 g3 dv => k v B3 H3 ((g1.trans g2).trans g3.toT) (fun p hp => ?_) ⟨d, hd, dv⟩
    obtain ⟨ns, a, b⟩ := t2 p hp
    exact ⟨ns, g3.hh _ _ a, b⟩
theorem TwS.grow {B H B' H' : Hp} (h : TwS F n H) (g : Grow B H B' H') : TwS F n H' := fun p hp => let ⟨ns, a, b⟩ := h p hp; ⟨ns, g.hh _ _ a, b⟩
theorem rda_nil (hw : r[1]? = some (some (.twn n))) : RunDA K F tNil r n (fun x => x = []) := rda_pure run_a0 hw
theorem rda_cons {tr : TA} {pr : List PyData → Prop} (h : RunD K F te r n1 pa) (hr : RunDA K F tr (tk n1 r) n2 pr) : RunDA K F (tCons te tr) r n2 (fun l => ∃ d ds, l = d :: ds ∧ pa d ∧ pr ds) := fun s B H ok Q k => h s B H ok _ fun v B1 H1 g1 t1 ⟨d, pd, dv⟩ =>
  hr s B1 H1 (ok.growT g1 t1) _ fun vs B2 H2 ds g2 t2 pds dvs => k (v :: vs) B2 H2 (d :: ds) (g1.trans g2) t2 ⟨d, ds, rfl, pd, pds⟩ (.cons (dp_mono g2.bb _ _ dv) dvs)
theorem RunDA.imp {ta : TA} {pl' : List PyData → Prop} (h : RunDA K F ta r n pl) (z : ∀ d, pl d → pl' d) : RunDA K F ta r n pl' := fun s B H ok Q k => h s B H ok Q fun vs B' H' ds g t w => k vs B' H' ds g t (z _ w)
theorem rd_tup {ta : TA} (h : RunDA K F ta r n pl) (hl : ∀ ds, pl ds → ds.length ≤ 1000000) : RunD K F (tTupF ta) r n (fun d => ∃ ds, pl ds ∧ d = .tuple ds) := fun s B H ok Q k => h s B H ok _ fun vs B1 H1 ds g1 t1 pds dvs =>
  ⟨by rw [dpAll_len dvs]; exact line_of (hl ds pds), fun p o _ _ hp => k _ _ _ (g1.trans (Grow.lay g1.bh hp).toT) (t1.grow (Grow.lay g1.bh hp)) ⟨_, ⟨ds, pds, rfl⟩, .tup (.inl (.inr ⟨o, upd_same⟩)) (dpAll_mono (Same.new (g1.bh.free hp)) _ _ dvs)⟩⟩
theorem rd_cb {rr : List V → Hp → VK → Prop} {ta : TA} (h : RunDA K F ta r n pl) (hc : ∀ ds, pl ds → ∃ d, CallD K rr ds d ∧ p d) : RunD K F (tCB rr ta) r n p := fun s B H ok Q k => h s B H ok _ fun vs B1 H1 ds g1 t1 pds dvs => by
  obtain ⟨d, hcd, hd⟩ := hc ds pds
  exact hcd B1 H1 vs g1.bh dvs Q fun v B2 H2 g2 dv => k v B2 H2 (g1.trans g2.toT) (t1.grow g2) ⟨d, hd, dv⟩
theorem rd_if (h : RunDT K F tt r n1 q) (h1 : q true → RunD K F ta (tk n1 r) n2 p) (h2 : q false → RunD K F tb (tk n1 r) n2 p) : RunD K F (tIf tt ta tb) r n2 p := fun s B H ok Q k => h s B H ok _ fun b B1 H1 g1 t1 hb => by
  cases b with
  | true => exact h1 hb s B1 H1 (ok.growT g1 t1) Q fun v B2 H2 g2 t2 w => k v B2 H2 (g1.trans g2) t2 w
  | false => exact h2 hb s B1 H1 (ok.growT g1 t1) Q fun v B2 H2 g2 t2 w => k v B2 H2 (g1.trans g2) t2 w
theorem rdt_of (h : RunD K F te r n (fun d => ∃ b, d = .bool b ∧ q b)) : RunDT K F (tTest te) r n q := fun s B H ok Q k => h s B H ok _ fun v B' H' g t ⟨d, ⟨b, e, hb⟩, dv⟩ => by
  subst e
  cases dv
  exact ⟨b, rfl, k b B' H' g t hb⟩
theorem rdt_or (h1 : RunDT K F tt r n1 q) (h2 : q false → RunDT K F tu (tk n1 r) n2 q2) (hn : n1 ≤ n2) : RunDT K F (tOr tt tu) r n2 (fun _ => True) := fun s B H ok Q k => h1 s B H ok _ fun b B1 H1 g1 t1 hb => by
  cases b with
  | true => exact k true B1 H1 g1 (t1.mono hn) trivial
  | false => exact h2 hb s B1 H1 (ok.growT g1 t1) Q fun b B2 H2 g2 t2 _ => k b B2 H2 (g1.trans g2) t2 trivial
theorem rdt_and {q3 : Bool → Prop} (h1 : RunDT K F tt r n1 q) (h2 : q true → RunDT K F tu (tk n1 r) n2 q2) (hn : n1 ≤ n2) (hf : q3 false) (ht : ∀ b, q2 b → q3 b) : RunDT K F (tAnd tt tu) r n2 q3 := fun s B H ok Q k => h1 s B H ok _ fun b B1 H1 g1 t1 hb => by
  cases b with
  | false => exact k false B1 H1 g1 (t1.mono hn) hf
  | true => exact h2 hb s B1 H1 (ok.growT g1 t1) Q fun b B2 H2 g2 t2 w => k b B2 H2 (g1.trans g2) t2 (ht b w)
/-! ### statements -/
theorem run_asgX {j : Nat} (h : RunD K F te r n p) (z : ∀ d, p d → E.nx ((tk n r).set j (some (.d d)))) : RunS K F (tAsg te (gName j)) r E := fun s B H ok D hn hr hb hc =>
  h s B H ok _ fun v B' H' g t ⟨d, pd, dv⟩ => hn _ B' H' _ (z d pd) ((ok.growT g t).setD j dv) g.bb
theorem run_asgXG {vs : List Nat} {g : TG} (h : RunD K F te r n p) (z : ∀ d, p d → ∃ r1, RunG K F vs g d (tk n r) r1 ∧ E.nx r1) : RunS K F (tAsg te g) r E := fun s B H ok D hn hr hb hc =>
  h s B H ok _ fun v B' H' gr t ⟨d, pd, dv⟩ => by
    obtain ⟨r1, hg, hx⟩ := z d pd
    exact hg s B' H' v (ok.growT gr t) dv _ fun s' ok' _ => hn s' B' H' r1 hx ok' gr.bb
theorem run_asgXW {j : Nat} {p : PyData → Prop} (h : RunX K F te r n (fun B v => ∃ d, p d ∧ Dp K B v d ∧ PlainW K B v d)) (z : ∀ d, p d → E.nx ((tk n r).set j (some (.wld d)))) : RunS K F (tAsg te (gName j)) r E := fun s B H ok D hn hr hb hc =>
  h s B H ok _ fun v B' H' g t ⟨d, pd, dv⟩ => hn _ B' H' _ (z d pd) ((ok.growT g t).set j (e := .wld d) dv fun ds p e => by cases e) g.bb
theorem run_retX (h : RunX K F te r n P) (z : ∀ B v, P B v → E.rt (tk n r) B v) : RunS K F (tRet te) r E := fun s B H ok D hn hr hb hc =>
  h s B H ok _ fun v B' H' g t w => hr v s B' H' (tk n r) (z B' v w) (ok.growT g t) g.bb
theorem run_ifX (h : RunDT K F tt r n q) (h1 : q true → RunS K F t (tk n r) E) (h2 : q false → RunS K F u (tk n r) E) : RunS K F (tIfS tt t u) r E := fun s B H ok D hn hr hb hc =>
  h s B H ok _ fun b B1 H1 g1 t1 hq => by
    cases b with
    | true => exact h1 hq s B1 H1 (ok.growT g1 t1) D (fun s2 B2 H2 r2 a b c => hn s2 B2 H2 r2 a b (g1.bb.trans c)) (fun v s2 B2 H2 r2 a b c => hr v s2 B2 H2 r2 a b (g1.bb.trans c)) (fun s2 B2 H2 r2 a b c => hb s2 B2 H2 r2 a b (g1.bb.trans c)) (fun s2 B2 H2 r2 a b c => hc s2 B2 H2 r2 a b (g1.bb.trans c))
    | false => exact h2 hq s B1 H1 (ok.growT g1 t1) D (fun s2 B2 H2 r2 a b c => hn s2 B2 H2 r2 a b (g1.bb.trans c)) (fun v s2 B2 H2 r2 a b c => hr v s2 B2 H2 r2 a b (g1.bb.trans c)) (fun s2 B2 H2 r2 a b c => hb s2 B2 H2 r2 a b (g1.bb.trans c)) (fun s2 B2 H2 r2 a b c => hc s2 B2 H2 r2 a b (g1.bb.trans c))
theorem run_parX {j k : Nat} {t2 : TA} {p2 : PyData → PyData → Prop} (h : RunDA K F t2 r n (fun l => ∃ a b, l = [a, b] ∧ p2 a b)) (z : ∀ a b, p2 a b → E.nx (((tk n r).set j (some (.d a))).set k (some (.d b)))) : RunS K F (tPar j k t2) r E := fun s B H ok D hn hr hb hc =>
  h s B H ok _ fun vs B' H' ds g t ⟨a, b, e, pab⟩ dvs => by
    subst e
    cases dvs with
    | cons da dr =>
      cases dr with
      | cons db dn =>
        cases dn
        exact ⟨_, _, rfl, hn _ B' H' _ (z a b pab) (((ok.growT g t).setD j da).setD k db) g.bb⟩
theorem run_appendX {j : Nat} (hi : r[j]? = some (some (.own ds))) (hl : ds.length < 1000000) (h : RunD K F te r n p) (z : ∀ d, p d → E.nx ((tk n r).set j (some (.own (ds ++ [d]))))) :
    RunS K F (tDrop (tBM K "list" rAppend (tVar j) (tCons te tNil))) r E := fun s B H ok D hn hr hb hc => by
  obtain ⟨v, a, p, xs, e, b1, b2, b3, b4, b5⟩ := ok.ent j _ hi
  subst e
  refine ⟨_, a, .inl ⟨rfl, xs, SqL.of b4⟩, ?_⟩
  refine h s B H ok _ fun y B1 H1 g1 t1 ⟨d, pd, dy⟩ => ?_
  refine ⟨p, xs, y, rfl, rfl, g1.hh _ _ b3 b4, by rw [dpAll_len b5]; exact line_lt hl, ?_⟩
  refine hn s B1 _ _ (z d pd) ((ok.growT g1 t1).upd (ds := ds) ?_ a (dpAll_app (dpAll_mono g1.bb _ _ b5) (.cons dy .nil))) g1.bb
  rw [tk_get, hi]
  rfl

/-! ### walks -/
def StabT (tw : Option Addr) (G : Hp → Hp → Prop) : Prop := ∀ B H B' H', G B H → GrowT tw B H B' H' → G B' H'
theorem StabS.toT {tw : Option Addr} {G : Hp → Hp → Prop} (h : StabS G) : StabT tw G := fun B H B' H' g z => h B H B' H' g z.bb z.bh
end
def RunIX (K : PySem.W.Frag) (F : Fx) (St : (Hp → Hp → Prop) → Prop) (wi : TI) (r : PEnv) (n : Nat) (pl : List PyData → Prop) : Prop := ∀ s B H, EnvOk K F B H s r → ∀ R : It → Hp → Prop, (∀ J G B' H' ds, GrowT F.tw B H B' H' → TwS F n H' → pl ds → G B' H' → St G → WalkD K J ds G → R J H') → wi s H R
section
variable {K : PySem.W.Frag} {F : Fx} {r r1 r2 : PEnv} {te ta tb tl : TE} {tt tu : TT} {d a b c : PyData} {P P' : Hp → V → Prop} {ds es : List PyData} {t u : TS} {E : Pst} {n n1 n2 n3 i : Nat} {p pa pb : PyData → Prop} {pl : List PyData → Prop} {q q2 : Bool → Prop} {wi : TI} {g : TG} {vs : List Nat}
theorem RunIX.toT (h : RunIX K F StabS wi r n pl) : RunIX K F (StabT F.tw) wi r n pl := fun s B H ok R k => h s B H ok R fun J G B' H' ds g t pd hG hs w => k J G B' H' ds g t pd hG hs.toT w
theorem rix_pure (h : RunI K F wi r ds) (hw : r[1]? = some (some (.twn n))) : RunIX K F StabS wi r n (fun x => x = ds) := fun s B H ok R k => h s B H ok R fun J G B' H' g hG hs w => k J G B' H' ds g.toT (TwS.of ok hw g) rfl hG hs w
theorem rix_lst (h : RunD K F tl r n p) (hp : ∀ d, p d → ∃ ds, d = .list ds ∧ pl ds) : RunIX K F StabS (iAny K tl) r n pl := fun s B H ok R k => h s B H ok _ fun v B1 H1 g1 t1 ⟨d, pd, dv⟩ => by
  obtain ⟨ds, rfl, hds⟩ := hp d pd
  obtain ⟨a, xs, rfl, hs, ha⟩ := dp_lst dv
  exact .inr (.inl ⟨a, rfl, ⟨xs, g1.bh.seq hs⟩, k _ _ B1 H1 ds g1 t1 hds ⟨g1.bh, xs, hs, ha⟩ (stabs_dat (φ := fun B => ∃ xs, SqL K B a xs ∧ DpAll K B xs ds) fun B B' ⟨xs, c, d⟩ e => ⟨xs, e.seq c, dpAll_mono e _ _ d⟩) walkd_lst⟩)
theorem rix_rng {ta : TA} {pn : Nat → Prop} (h : RunDA K F ta r n (fun l => ∃ k : Nat, l = [.int (k : Int)] ∧ k ≤ 100000 ∧ pn k)) : RunIX K F StabS (iRng1 ta) r n (fun ds => ∃ k, pn k ∧ ds = (List.range k).map fun (i : Nat) => .int (i : Int)) := fun s B H ok R k => h s B H ok _ fun vs B1 H1 ds g1 t1 ⟨m, e, hm, pm⟩ dvs => by
  subst e
  cases dvs with
  | cons a b =>
    cases b
    cases a
    refine ⟨m, rfl, by omega, by omega, k _ (fun B H => Same B H ∧ True) B1 H1 _ g1 t1 ⟨m, pm, rfl⟩ ⟨g1.bh, trivial⟩ (stabs_dat (φ := fun _ => True) fun _ _ _ _ => trivial) ⟨fun i B H hi _ => ?_, fun B H _ => ?_, fun i B H x H' hi ⟨sb, _⟩ _ y => ?_⟩⟩
    · rw [List.length_map, List.length_range] at hi
      show i < (m : Int).toNat
      rw [Int.toNat_natCast]
      exact hi
    · rw [List.length_map, List.length_range]
      show (m : Int).toNat ≤ m
      rw [Int.toNat_natCast]
      exact Nat.le_refl _
    · obtain ⟨e, ex⟩ := y
      subst e ex
      rw [List.length_map, List.length_range] at hi
      refine ⟨B, .int (i : Int), Grow.refl sb, ?_, ?_⟩
      · rw [List.getElem?_map, List.getElem?_range hi]
        rfl
      · rw [Int.zero_add]
        exact .int _
/-- an own list, walked while it stands -/
theorem rix_own {j : Nat} (hi : r[j]? = some (some (.own ds))) (hw : r[1]? = some (some (.twn n))) : RunIX K F (StabT F.tw) (iAny K (tVar j)) r n (fun x => x = ds) := fun s B H ok R k => by
  obtain ⟨v, a, p, xs, e, b1, b2, b3, b4, b5⟩ := ok.ent j _ hi
  subst e
  refine ⟨_, a, .inr (.inl ⟨p, rfl, ⟨xs, SqL.of b4⟩, ?_⟩)⟩
  refine k _ (fun B H => Same B H ∧ H p = some (.lst xs) ∧ DpAll K B xs ds) B H ds (Grow.refl ok.bh).toT (TwS.of ok hw (Grow.refl ok.bh)) rfl ⟨ok.bh, b4, b5⟩ (fun B H B' H' ⟨c1, c2, c3⟩ g => ⟨g.bh, g.hh _ _ b3 c2, dpAll_mono g.bb _ _ c3⟩) ⟨fun i B H hi ⟨c1, c2, c3⟩ => ?_, fun B H ⟨c1, c2, c3⟩ => ⟨xs, SqL.of c2, by rw [dpAll_len c3]; exact Nat.le_refl _⟩, fun i B H x H' hi ⟨c1, c2, c3⟩ _ y => ?_⟩
  · have h' : i < xs.length := by rw [dpAll_len c3]; exact hi
    exact ⟨xs, xs[i], SqL.of c2, by simp [h']⟩
  · obtain ⟨e, y⟩ := y
    subst e
    obtain ⟨d, hd, dx⟩ := dpAll_get' c3 (y xs (SqL.of c2))
    exact ⟨B, d, Grow.refl c1, hd, dx⟩
/-- a for whose list may be drawn -/
theorem run_forX {al : Type} (enc : al → PyData) (ok : List al → Prop) (R : List al → Nat → PEnv) (hi : RunIX K F StabS wi r n (fun ds => ∃ l, ds = l.map enc ∧ ok l)) (h0 : ∀ l, ok l → Le (R l 0) (tk n r))
    (ht : ∀ l, ok l → ∀ (i : Nat) (x : al), l[i]? = some x → ∃ r1, RunG K F vs g (enc x) (R l i) r1 ∧ RunS K F t r1 { E with nx := fun r' => Le (R l (i + 1)) r', ct := fun r' => Le (R l (i + 1)) r', bk := E.nx }) (hd : ∀ l, ok l → E.nx (R l l.length)) :
    RunS K F (tFor wi g t) r E := fun s B H ok0 D hn hr hb hc =>
  hi s B H ok0 _ fun J G B1 H1 ds g1 t1 ⟨l, hl, okl⟩ hG hst w => by
    subst hl
    refine for_it w.walk (fun i s' Hc => ∃ Bc, EnvOk K F Bc Hc s' (R l i) ∧ G Bc Hc ∧ Same B Bc) ⟨B1, (ok0.growT g1 t1).weak (h0 l okl), hG, g1.bb⟩ (fun i s' Hc _ ⟨Bc, _, q, _⟩ => ⟨Bc, q⟩) (fun i x s' Hc H' hi ⟨Bc, ok', q, sb⟩ y => ?_) (fun s' Hc ⟨Bc, ok', q, sb⟩ => hn s' Bc Hc _ (by rw [List.length_map]; exact hd l okl) ok' sb)
    obtain ⟨B', d, gr, hdi, dx⟩ := y Bc q ok'.bh
    rw [List.getElem?_map] at hdi
    obtain ⟨x', hx', rfl⟩ := Option.map_eq_some_iff.mp hdi
    obtain ⟨r1, hg, hbody⟩ := ht l okl i x' hx'
    refine hg s' B' H' x (ok'.grow gr) dx _ fun s2 ok2 _ => ?_
    refine hbody s2 B' H' ok2 _ (fun s3 B3 H3 r3 le ok3 sb3 => ⟨B3, ok3.weak le, hst _ _ _ _ q (gr.bb.trans sb3) ok3.bh, sb.trans (gr.bb.trans sb3)⟩) (fun v s3 B3 H3 r3 q3 ok3 sb3 => hr v s3 B3 H3 r3 q3 ok3 (sb.trans (gr.bb.trans sb3)))
      (fun s3 B3 H3 r3 q3 ok3 sb3 => hn s3 B3 H3 r3 q3 ok3 (sb.trans (gr.bb.trans sb3))) (fun s3 B3 H3 r3 le ok3 sb3 => ⟨B3, ok3.weak le, hst _ _ _ _ q (gr.bb.trans sb3) ok3.bh, sb.trans (gr.bb.trans sb3)⟩)
/-- a comprehension that draws: I tells of what is there ahead of each turn, N how many draws at most -/
theorem rd_lc {al be : Type} (enc : al → PyData) (ok : List al → Prop) (out : be → PyData) (I : List al → Nat → List be → Prop) (N : Nat → Nat) (nf : Nat)
    (hi : RunIX K F (StabT F.tw) wi r n (fun ds => ∃ l, ds = l.map enc ∧ ok l)) (h0 : ∀ l, ok l → I l 0 []) (hN : n ≤ N 0) (hf : ∀ l, ok l → N l.length ≤ nf) (hlen : ∀ l, ok l → ∀ i zs, I l i zs → zs.length < 1000000)
    (ht : ∀ l, ok l → ∀ (i : Nat) (x : al) (zs : List be), l[i]? = some x → I l i zs → ∃ r1 n1 q, RunG K F vs g (enc x) (wipeR (tk (N i) r) vs) r1 ∧ RunDT K F tt r1 n1 q ∧ (q false → n1 ≤ N (i + 1) ∧ I l (i + 1) zs) ∧ (q true → RunX K F te (tk n1 r1) (N (i + 1)) (fun B v => ∃ z, Dp K B v (out z) ∧ I l (i + 1) (zs ++ [z])))) :
    RunD K F (tLc wi g tt te vs) r nf (fun d => ∃ l zs, ok l ∧ I l l.length zs ∧ d = .list (zs.map out)) := fun s B H ok0 Q k =>
  hi s B H ok0 _ fun J G B1 H1 ds g1 t1 ⟨l, hl, okl⟩ hG hst w D hD => by
    subst hl
    have hDt : ∀ p, F.tw = some p → D ≠ p := fun p hp e => by
      subst e
      obtain ⟨ns, z, _⟩ := t1 D hp
      rw [hD] at z
      cases z
    have hDn : F.tw ≠ some D := fun e => hDt D e rfl
    refine lc_it w.walk (fun i Hc => ∃ Bc xs zs, GrowT F.tw B1 H1 Bc Hc ∧ TwS F (N i) Hc ∧ Bc D = none ∧ Hc D = some (.lst xs) ∧ DpAll K Bc xs (zs.map out) ∧ I l i zs) ⟨B1, [], [], (Grow.out g1.bh hD).toT, (t1.mono hN).grow (Grow.out g1.bh hD), g1.bh.free hD, upd_same, .nil, h0 l okl⟩ (fun i Hc _ ⟨Bc, xs, zs, gr, _⟩ => ⟨Bc, hst _ _ _ _ hG gr⟩) (fun i x Hc H' hlt ⟨Bc, xs, zs, gr, tw, b1, b2, b3, hI⟩ y => ?_) (fun Hc ⟨Bc, xs, zs, gr, tw, b1, b2, b3, hI⟩ => ?_)
    · have hlt' : i < l.length := by rw [List.length_map] at hlt; exact hlt
      obtain ⟨B', d, gr2, hdi, dx⟩ := y Bc (hst _ _ _ _ hG gr) gr.bh
      rw [List.getElem?_map] at hdi
      obtain ⟨x', hx', rfl⟩ := Option.map_eq_some_iff.mp hdi
      obtain ⟨r1, n1, q, hg, htt, hq0, hte⟩ := ht l okl i x' zs hx' hI
      have gr12 : GrowT F.tw B1 H1 B' H' := gr.trans gr2.toT
      have okw := ((ok0.growT (g1.trans gr12) (tw.grow gr2)).wipe vs)
      refine hg _ B' H' x okw dx _ fun s2 ok2 hw => ⟨by rw [hw, wipe_wipe], ?_⟩
      refine htt s2 B' H' ok2 _ fun b B3 H3 g3 t3 hqb => ?_
      have hD3 : ∀ {B4 H4 : Hp}, GrowT F.tw Bc Hc B4 H4 → B4 D = none ∧ H4 D = some (.lst xs) := fun {B4 H4} g4 => ⟨by rw [g4.new D (by rw [b2]; simp)]; exact b1, g4.hh _ _ hDn b2⟩
      have up : ∀ {B4 H4 : Hp} {ys : List V}, GrowT F.tw Bc Hc B4 H4 → GrowT F.tw B1 H1 B4 (L2.upd H4 D (.lst ys)) := fun {B4 H4 ys} g4 => by
        have g14 := gr.trans g4
        refine ⟨g14.bb, fun z o e => ?_, fun z o t e => ?_, g14.new, fun z e => ?_⟩
        · rw [upd_ne (fun q => by rw [q, (hD3 g4).1] at e; cases e)]
          exact g14.bh z o e
        · rw [upd_ne (fun q => by rw [q, hD] at e; cases e)]
          exact g14.hh z o t e
        · by_cases q : z = D
          · rw [q, upd_same]
            simp
          · rw [upd_ne q]
            exact g14.kp z e
      cases b with
      | true =>
        show te s2 H3 _
        refine hte hqb s2 B3 H3 (ok2.growT g3 t3) _ fun v B4 H4 g4 t4 ⟨z, dv, hI'⟩ => ?_
        have gg := gr2.toT.trans (g3.trans g4)
        refine ⟨xs, (hD3 gg).2, ?_, B4, xs ++ [v], zs ++ [z], up gg, fun p hp => ?_, (hD3 gg).1, upd_same, ?_, hI'⟩
        · rw [dpAll_len b3, List.length_map]
          exact line_lt (hlen l okl _ _ hI)
        · obtain ⟨ns, e1, e2⟩ := t4 p hp
          exact ⟨ns, by rw [upd_ne (fun e => hDt p hp e.symm)]; exact e1, e2⟩
        · rw [List.map_append]
          exact dpAll_app (dpAll_mono gg.bb _ _ b3) (.cons dv .nil)
      | false =>
        have gg := gr2.toT.trans g3
        obtain ⟨hn1, hI'⟩ := hq0 hqb
        show ∃ Bc xs zs, _
        exact ⟨B3, xs, zs, gr.trans gg, t3.mono hn1, (hD3 gg).1, (hD3 gg).2, dpAll_mono gg.bb _ _ b3, hI'⟩
    · rw [List.length_map] at tw hI
      have hHD : H D = none := by
        cases e : H D with
        | none => rfl
        | some o =>
          exact absurd hD (g1.kp D (by rw [e]; simp))
      refine k (.ref D) _ Hc ((g1.trans gr).freeze hHD b1 b2) (tw.mono (hf l okl)) ⟨_, ⟨l, zs, okl, hI, rfl⟩, .lst (SqL.of upd_same) (dpAll_mono (Same.new b1) _ _ b3)⟩
/-! ### calls over data -/
theorem call_tupL : CallD K (rTupA K) [.list ds] (.tuple ds) := fun B H vs s dv Q k => by
  cases dv with
  | cons h n =>
    cases n
    obtain ⟨p, xs, rfl, h1, a1⟩ := dp_lst h
    exact ⟨p, xs, rfl, .inl ⟨s.seq h1, fun l hl => k _ _ _ (Grow.lay s hl) (.tup (SqT.of upd_same) (dpAll_mono (Same.new (s.free hl)) _ _ a1))⟩⟩
theorem call_sortD2 (h1 : PySem.W.AllAlike ds) (h2 : PySem.W.Sortable ds) (h3 : ∀ d ∈ ds, d.depth ≤ 60) : CallD K (rSortD K) [.list ds] (.list (ds.mergeSort (PySem.W.dataLe false id))) := fun B H vs s dv Q k => by
  cases dv with
  | cons h n =>
    cases n
    obtain ⟨p, xs, rfl, hl, a1⟩ := dp_lst h
    exact ⟨p, xs, ds, B, rfl, s.seq hl, dpAll_mono s _ _ a1, a1, h1, h2, h3, fun l ys hl' hy => k _ _ _ ((Grow.out s hl').freeze hl' (s.free hl') upd_same) (.lst (SqL.of upd_same) (dpAll_mono (Same.new (s.free hl')) _ _ hy))⟩
end
end Ts
set_option Elab.async false
set_option linter.all false
set_option maxRecDepth 100000
set_option maxHeartbeats 2000000
/-! Promises of defs that draw. -/
namespace Ts
open PySem PySem.Spec PyProof.Rows L2
abbrev scD (sc : List Int) : PyData := .list (sc.map PyData.int)
abbrev endsT (n : Nat) (post : Hp → V → Prop) : Pst := ⟨fun r => (∃ m, r[1]? = some (some (.twn m)) ∧ m ≤ n) ∧ ∀ B, post B .non, fun r B v => (∃ m, r[1]? = some (some (.twn m)) ∧ m ≤ n) ∧ post B v, fun _ => False, fun _ => False⟩
theorem growT_of {K : PySem.W.Frag} {B H B' H' : Hp} {p : Addr} {m n k : Nat} {s : L2.St} {r : PEnv} (ok : EnvOk K ⟨H, B, some p, m⟩ B' H' s r) (hw : r[1]? = some (some (.twn k))) (hk : k ≤ n) :
    GrowT (some p) B H B' H' ∧ ∃ ns : List Int, H' p = some (.lst (ns.map V.int)) ∧ TwOk m n ns := by
  obtain ⟨v, a, p2, ns, e1, b1, b2, b3, b4⟩ := ok.ent 1 _ hw
  cases b2
  refine ⟨⟨ok.bb, ok.bh, fun a o t e => ok.keep a o e t, fun a ha => ok.new a ha, fun a ha => ?_⟩, ns, b3, b4.mono hk⟩
  by_cases e : a = p
  · rw [e, b3]
    simp
  · obtain ⟨o, ho⟩ := Option.ne_none_iff_exists'.mp ha
    rw [ok.keep a o ho (fun z => e (Option.some.inj z).symm)]
    simp
def spT0 (K : PySem.W.Frag) (sc : List Int) (c : Nat)  (pre : Prop) (post : Hp → V → Prop) : Sp := fun vs H Q _ => ∃ (B : Hp) (v1 : V) (p : Addr) (ns : List Int) (n : Nat), vs = [v1, .ref p] ∧ Same B H ∧ Dp K B v1 (scD sc) ∧ B p = none ∧ H p = some (.lst (ns.map V.int)) ∧ TwOk sc.length n ns ∧ n + c ≤ 1000000 ∧ pre ∧ ∀ v B' H', GrowT (some p) B H B' H' → (∃ ns' : List Int, H' p = some (.lst (ns'.map V.int)) ∧ TwOk sc.length (n + c) ns') → post B' v → Q v H'
theorem run_callT0 {K : PySem.W.Frag} {F : Fx} {r : PEnv} {sc : List Int} {c n : Nat}  {pre : Prop} {post : Hp → V → Prop}  (hF : F.m = sc.length) (hs : r[0]? = some (some (.d (scD sc)))) (hw : r[1]? = some (some (.twn n)))  (hn : n + c ≤ 1000000) (hp : pre) :
    RunX K F (tCall (spT0 K sc c  pre post) [] E0 (tCons (tVar 0) (tCons (tVar 1) tNil))) r (n + c) post := fun s B H ok Q k => by
  obtain ⟨v1, a1, d1⟩ := ok.ent 0 _ hs
  obtain ⟨v2, a2, p, ns, e1, b1, b2, b3, b4⟩ := ok.ent 1 _ hw
  subst e1
  rw [hF] at b4
  refine ⟨_, a1, _, a2, ?_⟩
  have g2 : Grow B H B H := Grow.refl ok.bh
  refine ⟨B, v1, p, ns, n, rfl, g2.bh, dp_mono g2.bb _ _ d1, by rw [g2.new p (by rw [b3]; simp)]; exact b1, g2.hh _ _ b3, b4, hn, hp, fun v B' H' g t z => k v B' H' ?_ (fun p' hp' => ?_) z⟩
  · rw [b2]
    exact g2.toT.trans g
  · rw [b2] at hp'
    cases hp'
    rw [hF]
    exact t
theorem fnT0 {P : Program} {w : World} {K : PySem.W.Frag} {mg : Str → Option Value} {base : Heap} {x qual : Str} {st : Stmt} {f : Addr} {fd : FuncData} {N : List Str} {p1 p2 : Str} {k : Nat} {sc : List Int} {c : Nat}  {pre : Prop} {post : Hp → V → Prop}
    (Fn : Fun K x qual st f fd) (S : FnScope N [p1, p2] (defScope st))
    (body : ∀ (cdv : Value) (A : Around) (outer : List Env) (s : Shared) (H : Hp) (E : XK), Room k (A.deeper (envOfC qual (defScope st) s.heap.objs.size f cdv)) →
      ∃ t, PSs (cxOf CX0 P w K mg base N qual (defScope st) f cdv A outer s H E).nox (defBody st) t ∧ (pre → ∀ (F : Fx) (n : Nat), F.m = sc.length → n + c ≤ 1000000 → RunS K F t ([some (.d (scD sc)), some (.twn n)] ++ List.replicate (N.length - 2) none) (endsT (n + c) post))) :
    FnOk P w K mg base CX0 (k + 1) f fd [p1, p2] (spT0 K sc c  pre post) := by
  refine Fn.ok S (fun vs H Q E h => ?_) (fun cdv A outer s H vs Q E hr h => ?_)
  · obtain ⟨B, v1, p, ns, n, rfl, _⟩ := h
    rfl
  · obtain ⟨B, v1, p, ns, n, rfl, sb, d1, b1, b2, b3, hn, hp, q⟩ := h
    obtain ⟨t, ht, hrun⟩ := body cdv A outer s H E hr
    refine ⟨t, ht, ?_⟩
    have en : Ents K ⟨H, B, some p, sc.length⟩ B H [v1, .ref p] [.d (scD sc), .twn n] := .cons (show EntOk K _ B H v1 (.d (scD sc)) from d1) (fun ds z => nomatch z) <| .cons (show EntOk K _ B H (.ref p) (.twn n) from ⟨p, ns, rfl, b1, rfl, b2, b3⟩) (fun ds z => nomatch z) <| .nil
    have ok := env_start (m := N.length - 2) en rfl rfl sb (fun p' e => by cases e; exact ⟨b1, by rw [b2]; simp⟩)
    refine hrun hp ⟨H, B, some p, sc.length⟩ n rfl hn _ B H ok _ (fun s' B' H' r' z ok' e => ?_) (fun v s' B' H' r' z ok' e => ?_) (fun _ _ _ _ z => z.elim) (fun _ _ _ _ z => z.elim)
    · obtain ⟨⟨m, hm, hle⟩, z⟩ := z
      obtain ⟨g1, g2⟩ := growT_of ok' hm hle
      exact q _ B' H' g1 g2 (z B')
    · obtain ⟨⟨m, hm, hle⟩, z⟩ := z
      obtain ⟨g1, g2⟩ := growT_of ok' hm hle
      exact q _ B' H' g1 g2 z
def spT1 {al : Type} (K : PySem.W.Frag) (sc : List Int) (c : Nat) (k3 : Pk al) (pre : al → Prop) (post : al → Hp → V → Prop) : Sp := fun vs H Q _ => ∃ (B : Hp) (v1 : V) (p : Addr) (ns : List Int) (n : Nat) (v3 : V) (x3 : al), vs = [v1, .ref p, v3] ∧ Same B H ∧ Dp K B v1 (scD sc) ∧ B p = none ∧ H p = some (.lst (ns.map V.int)) ∧ TwOk sc.length n ns ∧ n + c ≤ 1000000 ∧ k3.R K x3 B v3 ∧ pre x3 ∧ ∀ v B' H', GrowT (some p) B H B' H' → (∃ ns' : List Int, H' p = some (.lst (ns'.map V.int)) ∧ TwOk sc.length (n + c) ns') → (post x3) B' v → Q v H'
theorem run_callT1 {al : Type} {K : PySem.W.Frag} {F : Fx} {r : PEnv} {sc : List Int} {c n : Nat} {t3 : TE} {k3 : Pk al} {pre : al → Prop} {post : al → Hp → V → Prop} {x3 : al} (hF : F.m = sc.length) (hs : r[0]? = some (some (.d (scD sc)))) (hw : r[1]? = some (some (.twn n))) (h3 : RunP K F t3 r k3 x3) (hn : n + c ≤ 1000000) (hp : pre x3) :
    RunX K F (tCall (spT1 K sc c k3 pre post) [] E0 (tCons (tVar 0) (tCons (tVar 1) (tCons t3 tNil)))) r (n + c) (post x3) := fun s B H ok Q k => by
  obtain ⟨v1, a1, d1⟩ := ok.ent 0 _ hs
  obtain ⟨v2, a2, p, ns, e1, b1, b2, b3, b4⟩ := ok.ent 1 _ hw
  subst e1
  rw [hF] at b4
  refine ⟨_, a1, _, a2, ?_⟩
  have g2 : Grow B H B H := Grow.refl ok.bh
  refine h3 s _ _ (ok.grow g2) _ fun v3 B3 H3 g3' d3 => ?_
  have g3 := g2.trans g3'
  refine ⟨B3, v1, p, ns, n, v3, x3, rfl, g3.bh, dp_mono g3.bb _ _ d1, by rw [g3.new p (by rw [b3]; simp)]; exact b1, g3.hh _ _ b3, b4, hn, d3, hp, fun v B' H' g t z => k v B' H' ?_ (fun p' hp' => ?_) z⟩
  · rw [b2]
    exact g3.toT.trans g
  · rw [b2] at hp'
    cases hp'
    rw [hF]
    exact t
theorem fnT1 {al : Type} {P : Program} {w : World} {K : PySem.W.Frag} {mg : Str → Option Value} {base : Heap} {x qual : Str} {st : Stmt} {f : Addr} {fd : FuncData} {N : List Str} {p1 p2 p3 : Str} {k : Nat} {sc : List Int} {c : Nat} {k3 : Pk al} {pre : al → Prop} {post : al → Hp → V → Prop}
    (Fn : Fun K x qual st f fd) (S : FnScope N [p1, p2, p3] (defScope st))
    (body : ∀ (cdv : Value) (A : Around) (outer : List Env) (s : Shared) (H : Hp) (E : XK), Room k (A.deeper (envOfC qual (defScope st) s.heap.objs.size f cdv)) →
      ∃ t, PSs (cxOf CX0 P w K mg base N qual (defScope st) f cdv A outer s H E).nox (defBody st) t ∧ (∀ x3, pre x3 → ∀ (F : Fx) (n : Nat), F.m = sc.length → n + c ≤ 1000000 → RunS K F t ([some (.d (scD sc)), some (.twn n), some (k3.ent x3)] ++ List.replicate (N.length - 3) none) (endsT (n + c) (post x3)))) :
    FnOk P w K mg base CX0 (k + 1) f fd [p1, p2, p3] (spT1 K sc c k3 pre post) := by
  refine Fn.ok S (fun vs H Q E h => ?_) (fun cdv A outer s H vs Q E hr h => ?_)
  · obtain ⟨B, v1, p, ns, n, v3, x3, rfl, _⟩ := h
    rfl
  · obtain ⟨B, v1, p, ns, n, v3, x3, rfl, sb, d1, b1, b2, b3, hn, d3, hp, q⟩ := h
    obtain ⟨t, ht, hrun⟩ := body cdv A outer s H E hr
    refine ⟨t, ht, ?_⟩
    have en : Ents K ⟨H, B, some p, sc.length⟩ B H [v1, .ref p, v3] [.d (scD sc), .twn n, k3.ent x3] := .cons (show EntOk K _ B H v1 (.d (scD sc)) from d1) (fun ds z => nomatch z) <| .cons (show EntOk K _ B H (.ref p) (.twn n) from ⟨p, ns, rfl, b1, rfl, b2, b3⟩) (fun ds z => nomatch z) <| .cons (k3.ok d3) (fun ds => k3.no) <| .nil
    have ok := env_start (m := N.length - 3) en rfl rfl sb (fun p' e => by cases e; exact ⟨b1, by rw [b2]; simp⟩)
    refine hrun x3 hp ⟨H, B, some p, sc.length⟩ n rfl hn _ B H ok _ (fun s' B' H' r' z ok' e => ?_) (fun v s' B' H' r' z ok' e => ?_) (fun _ _ _ _ z => z.elim) (fun _ _ _ _ z => z.elim)
    · obtain ⟨⟨m, hm, hle⟩, z⟩ := z
      obtain ⟨g1, g2⟩ := growT_of ok' hm hle
      exact q _ B' H' g1 g2 (z B')
    · obtain ⟨⟨m, hm, hle⟩, z⟩ := z
      obtain ⟨g1, g2⟩ := growT_of ok' hm hle
      exact q _ B' H' g1 g2 z
def spT2 {al be : Type} (K : PySem.W.Frag) (sc : List Int) (c : Nat) (k3 : Pk al) (k4 : Pk be) (pre : al → be → Prop) (post : al → be → Hp → V → Prop) : Sp := fun vs H Q _ => ∃ (B : Hp) (v1 : V) (p : Addr) (ns : List Int) (n : Nat) (v3 : V) (x3 : al) (v4 : V) (x4 : be), vs = [v1, .ref p, v3, v4] ∧ Same B H ∧ Dp K B v1 (scD sc) ∧ B p = none ∧ H p = some (.lst (ns.map V.int)) ∧ TwOk sc.length n ns ∧ n + c ≤ 1000000 ∧ k3.R K x3 B v3 ∧ k4.R K x4 B v4 ∧ pre x3 x4 ∧ ∀ v B' H', GrowT (some p) B H B' H' → (∃ ns' : List Int, H' p = some (.lst (ns'.map V.int)) ∧ TwOk sc.length (n + c) ns') → (post x3 x4) B' v → Q v H'
theorem run_callT2 {al be : Type} {K : PySem.W.Frag} {F : Fx} {r : PEnv} {sc : List Int} {c n : Nat} {t3 t4 : TE} {k3 : Pk al} {k4 : Pk be} {pre : al → be → Prop} {post : al → be → Hp → V → Prop} {x3 : al} {x4 : be} (hF : F.m = sc.length) (hs : r[0]? = some (some (.d (scD sc)))) (hw : r[1]? = some (some (.twn n))) (h3 : RunP K F t3 r k3 x3) (h4 : RunP K F t4 r k4 x4) (hn : n + c ≤ 1000000) (hp : pre x3 x4) :
    RunX K F (tCall (spT2 K sc c k3 k4 pre post) [] E0 (tCons (tVar 0) (tCons (tVar 1) (tCons t3 (tCons t4 tNil))))) r (n + c) (post x3 x4) := fun s B H ok Q k => by
  obtain ⟨v1, a1, d1⟩ := ok.ent 0 _ hs
  obtain ⟨v2, a2, p, ns, e1, b1, b2, b3, b4⟩ := ok.ent 1 _ hw
  subst e1
  rw [hF] at b4
  refine ⟨_, a1, _, a2, ?_⟩
  have g2 : Grow B H B H := Grow.refl ok.bh
  refine h3 s _ _ (ok.grow g2) _ fun v3 B3 H3 g3' d3 => ?_
  have g3 := g2.trans g3'
  refine h4 s _ _ (ok.grow g3) _ fun v4 B4 H4 g4' d4 => ?_
  have g4 := g3.trans g4'
  refine ⟨B4, v1, p, ns, n, v3, x3, v4, x4, rfl, g4.bh, dp_mono g4.bb _ _ d1, by rw [g4.new p (by rw [b3]; simp)]; exact b1, g4.hh _ _ b3, b4, hn, (k3.mono g4'.bb d3), d4, hp, fun v B' H' g t z => k v B' H' ?_ (fun p' hp' => ?_) z⟩
  · rw [b2]
    exact g4.toT.trans g
  · rw [b2] at hp'
    cases hp'
    rw [hF]
    exact t
theorem fnT2 {al be : Type} {P : Program} {w : World} {K : PySem.W.Frag} {mg : Str → Option Value} {base : Heap} {x qual : Str} {st : Stmt} {f : Addr} {fd : FuncData} {N : List Str} {p1 p2 p3 p4 : Str} {k : Nat} {sc : List Int} {c : Nat} {k3 : Pk al} {k4 : Pk be} {pre : al → be → Prop} {post : al → be → Hp → V → Prop}
    (Fn : Fun K x qual st f fd) (S : FnScope N [p1, p2, p3, p4] (defScope st))
    (body : ∀ (cdv : Value) (A : Around) (outer : List Env) (s : Shared) (H : Hp) (E : XK), Room k (A.deeper (envOfC qual (defScope st) s.heap.objs.size f cdv)) →
      ∃ t, PSs (cxOf CX0 P w K mg base N qual (defScope st) f cdv A outer s H E).nox (defBody st) t ∧ (∀ x3 x4, pre x3 x4 → ∀ (F : Fx) (n : Nat), F.m = sc.length → n + c ≤ 1000000 → RunS K F t ([some (.d (scD sc)), some (.twn n), some (k3.ent x3), some (k4.ent x4)] ++ List.replicate (N.length - 4) none) (endsT (n + c) (post x3 x4)))) :
    FnOk P w K mg base CX0 (k + 1) f fd [p1, p2, p3, p4] (spT2 K sc c k3 k4 pre post) := by
  refine Fn.ok S (fun vs H Q E h => ?_) (fun cdv A outer s H vs Q E hr h => ?_)
  · obtain ⟨B, v1, p, ns, n, v3, x3, v4, x4, rfl, _⟩ := h
    rfl
  · obtain ⟨B, v1, p, ns, n, v3, x3, v4, x4, rfl, sb, d1, b1, b2, b3, hn, d3, d4, hp, q⟩ := h
    obtain ⟨t, ht, hrun⟩ := body cdv A outer s H E hr
    refine ⟨t, ht, ?_⟩
    have en : Ents K ⟨H, B, some p, sc.length⟩ B H [v1, .ref p, v3, v4] [.d (scD sc), .twn n, k3.ent x3, k4.ent x4] := .cons (show EntOk K _ B H v1 (.d (scD sc)) from d1) (fun ds z => nomatch z) <| .cons (show EntOk K _ B H (.ref p) (.twn n) from ⟨p, ns, rfl, b1, rfl, b2, b3⟩) (fun ds z => nomatch z) <| .cons (k3.ok d3) (fun ds => k3.no) <| .cons (k4.ok d4) (fun ds => k4.no) <| .nil
    have ok := env_start (m := N.length - 4) en rfl rfl sb (fun p' e => by cases e; exact ⟨b1, by rw [b2]; simp⟩)
    refine hrun x3 x4 hp ⟨H, B, some p, sc.length⟩ n rfl hn _ B H ok _ (fun s' B' H' r' z ok' e => ?_) (fun v s' B' H' r' z ok' e => ?_) (fun _ _ _ _ z => z.elim) (fun _ _ _ _ z => z.elim)
    · obtain ⟨⟨m, hm, hle⟩, z⟩ := z
      obtain ⟨g1, g2⟩ := growT_of ok' hm hle
      exact q _ B' H' g1 g2 (z B')
    · obtain ⟨⟨m, hm, hle⟩, z⟩ := z
      obtain ⟨g1, g2⟩ := growT_of ok' hm hle
      exact q _ B' H' g1 g2 z
def spT4 {al be ga de : Type} (K : PySem.W.Frag) (sc : List Int) (c : Nat) (k3 : Pk al) (k4 : Pk be) (k5 : Pk ga) (k6 : Pk de) (pre : al → be → ga → de → Prop) (post : al → be → ga → de → Hp → V → Prop) : Sp := fun vs H Q _ => ∃ (B : Hp) (v1 : V) (p : Addr) (ns : List Int) (n : Nat) (v3 : V) (x3 : al) (v4 : V) (x4 : be) (v5 : V) (x5 : ga) (v6 : V) (x6 : de), vs = [v1, .ref p, v3, v4, v5, v6] ∧ Same B H ∧ Dp K B v1 (scD sc) ∧ B p = none ∧ H p = some (.lst (ns.map V.int)) ∧ TwOk sc.length n ns ∧ n + c ≤ 1000000 ∧ k3.R K x3 B v3 ∧ k4.R K x4 B v4 ∧ k5.R K x5 B v5 ∧ k6.R K x6 B v6 ∧ pre x3 x4 x5 x6 ∧ ∀ v B' H', GrowT (some p) B H B' H' → (∃ ns' : List Int, H' p = some (.lst (ns'.map V.int)) ∧ TwOk sc.length (n + c) ns') → (post x3 x4 x5 x6) B' v → Q v H'
theorem run_callT4 {al be ga de : Type} {K : PySem.W.Frag} {F : Fx} {r : PEnv} {sc : List Int} {c n : Nat} {t3 t4 t5 t6 : TE} {k3 : Pk al} {k4 : Pk be} {k5 : Pk ga} {k6 : Pk de} {pre : al → be → ga → de → Prop} {post : al → be → ga → de → Hp → V → Prop} {x3 : al} {x4 : be} {x5 : ga} {x6 : de} (hF : F.m = sc.length) (hs : r[0]? = some (some (.d (scD sc)))) (hw : r[1]? = some (some (.twn n))) (h3 : RunP K F t3 r k3 x3) (h4 : RunP K F t4 r k4 x4) (h5 : RunP K F t5 r k5 x5) (h6 : RunP K F t6 r k6 x6) (hn : n + c ≤ 1000000) (hp : pre x3 x4 x5 x6) :
    RunX K F (tCall (spT4 K sc c k3 k4 k5 k6 pre post) [] E0 (tCons (tVar 0) (tCons (tVar 1) (tCons t3 (tCons t4 (tCons t5 (tCons t6 tNil))))))) r (n + c) (post x3 x4 x5 x6) := fun s B H ok Q k => by
  obtain ⟨v1, a1, d1⟩ := ok.ent 0 _ hs
  obtain ⟨v2, a2, p, ns, e1, b1, b2, b3, b4⟩ := ok.ent 1 _ hw
  subst e1
  rw [hF] at b4
  refine ⟨_, a1, _, a2, ?_⟩
  have g2 : Grow B H B H := Grow.refl ok.bh
  refine h3 s _ _ (ok.grow g2) _ fun v3 B3 H3 g3' d3 => ?_
  have g3 := g2.trans g3'
  refine h4 s _ _ (ok.grow g3) _ fun v4 B4 H4 g4' d4 => ?_
  have g4 := g3.trans g4'
  refine h5 s _ _ (ok.grow g4) _ fun v5 B5 H5 g5' d5 => ?_
  have g5 := g4.trans g5'
  refine h6 s _ _ (ok.grow g5) _ fun v6 B6 H6 g6' d6 => ?_
  have g6 := g5.trans g6'
  refine ⟨B6, v1, p, ns, n, v3, x3, v4, x4, v5, x5, v6, x6, rfl, g6.bh, dp_mono g6.bb _ _ d1, by rw [g6.new p (by rw [b3]; simp)]; exact b1, g6.hh _ _ b3, b4, hn, (k3.mono g6'.bb (k3.mono g5'.bb (k3.mono g4'.bb d3))), (k4.mono g6'.bb (k4.mono g5'.bb d4)), (k5.mono g6'.bb d5), d6, hp, fun v B' H' g t z => k v B' H' ?_ (fun p' hp' => ?_) z⟩
  · rw [b2]
    exact g6.toT.trans g
  · rw [b2] at hp'
    cases hp'
    rw [hF]
    exact t
theorem fnT4 {al be ga de : Type} {P : Program} {w : World} {K : PySem.W.Frag} {mg : Str → Option Value} {base : Heap} {x qual : Str} {st : Stmt} {f : Addr} {fd : FuncData} {N : List Str} {p1 p2 p3 p4 p5 p6 : Str} {k : Nat} {sc : List Int} {c : Nat} {k3 : Pk al} {k4 : Pk be} {k5 : Pk ga} {k6 : Pk de} {pre : al → be → ga → de → Prop} {post : al → be → ga → de → Hp → V → Prop}
    (Fn : Fun K x qual st f fd) (S : FnScope N [p1, p2, p3, p4, p5, p6] (defScope st))
    (body : ∀ (cdv : Value) (A : Around) (outer : List Env) (s : Shared) (H : Hp) (E : XK), Room k (A.deeper (envOfC qual (defScope st) s.heap.objs.size f cdv)) →
      ∃ t, PSs (cxOf CX0 P w K mg base N qual (defScope st) f cdv A outer s H E).nox (defBody st) t ∧ (∀ x3 x4 x5 x6, pre x3 x4 x5 x6 → ∀ (F : Fx) (n : Nat), F.m = sc.length → n + c ≤ 1000000 → RunS K F t ([some (.d (scD sc)), some (.twn n), some (k3.ent x3), some (k4.ent x4), some (k5.ent x5), some (k6.ent x6)] ++ List.replicate (N.length - 6) none) (endsT (n + c) (post x3 x4 x5 x6)))) :
    FnOk P w K mg base CX0 (k + 1) f fd [p1, p2, p3, p4, p5, p6] (spT4 K sc c k3 k4 k5 k6 pre post) := by
  refine Fn.ok S (fun vs H Q E h => ?_) (fun cdv A outer s H vs Q E hr h => ?_)
  · obtain ⟨B, v1, p, ns, n, v3, x3, v4, x4, v5, x5, v6, x6, rfl, _⟩ := h
    rfl
  · obtain ⟨B, v1, p, ns, n, v3, x3, v4, x4, v5, x5, v6, x6, rfl, sb, d1, b1, b2, b3, hn, d3, d4, d5, d6, hp, q⟩ := h
    obtain ⟨t, ht, hrun⟩ := body cdv A outer s H E hr
    refine ⟨t, ht, ?_⟩
    have en : Ents K ⟨H, B, some p, sc.length⟩ B H [v1, .ref p, v3, v4, v5, v6] [.d (scD sc), .twn n, k3.ent x3, k4.ent x4, k5.ent x5, k6.ent x6] := .cons (show EntOk K _ B H v1 (.d (scD sc)) from d1) (fun ds z => nomatch z) <| .cons (show EntOk K _ B H (.ref p) (.twn n) from ⟨p, ns, rfl, b1, rfl, b2, b3⟩) (fun ds z => nomatch z) <| .cons (k3.ok d3) (fun ds => k3.no) <| .cons (k4.ok d4) (fun ds => k4.no) <| .cons (k5.ok d5) (fun ds => k5.no) <| .cons (k6.ok d6) (fun ds => k6.no) <| .nil
    have ok := env_start (m := N.length - 6) en rfl rfl sb (fun p' e => by cases e; exact ⟨b1, by rw [b2]; simp⟩)
    refine hrun x3 x4 x5 x6 hp ⟨H, B, some p, sc.length⟩ n rfl hn _ B H ok _ (fun s' B' H' r' z ok' e => ?_) (fun v s' B' H' r' z ok' e => ?_) (fun _ _ _ _ z => z.elim) (fun _ _ _ _ z => z.elim)
    · obtain ⟨⟨m, hm, hle⟩, z⟩ := z
      obtain ⟨g1, g2⟩ := growT_of ok' hm hle
      exact q _ B' H' g1 g2 (z B')
    · obtain ⟨⟨m, hm, hle⟩, z⟩ := z
      obtain ⟨g1, g2⟩ := growT_of ok' hm hle
      exact q _ B' H' g1 g2 z
end Ts
set_option Elab.async false
set_option linter.all false
set_option maxRecDepth 100000
set_option maxHeartbeats 2000000
namespace Ts
open PySem PySem.Spec PyProof.Rows L2
local macro_rules | `(tactic| walk_at "go") => `(tactic| simp only [cxK, cxK2, List.map_cons, List.map_nil, List.length_cons, List.length_nil, List.replicate, List.cons_append, List.nil_append, List.append_nil, Pk.ent, Nat.reduceAdd, Nat.reduceSub])
local macro_rules | `(tactic| walk_at "rfl") => `(tactic| with_unfolding_all exact rfl)
local macro_rules | `(tactic| walk_at "op") => `(tactic| with_reducible first
  | exact opd_plusI | exact opd_sub | exact opd_mod (by decide) | exact opb_eqI | exact opb_neI | exact opb_eqS | exact opb_neS | exact opb_eqB | exact opb_neB
  | exact opb_leI | exact opb_gtI | exact opb_geI | exact opb_ltI | exact opb_ltS | exact opb_isN | exact opb_notN | exact opb_inSgF | exact opb_inSLF | exact opb_inSTF | exact opb_inSLT | exact opb_inSTT | exact opb_inS2F | exact opb_inS2T
  | (apply opd_ixT; try walk_at "ix") | (apply opd_ixL; try walk_at "ix") | (apply opd_ixS; rotate_left; try walk_at "ix"; rotate_right) | apply opd_plusT | apply opd_mul | apply opd_div | apply opd_pow)
local macro_rules | `(tactic| walk_at "opD") => `(tactic| with_reducible first
  | walk_at "op" | (apply OpB.toD; walk_at "op"))
local macro_rules | `(tactic| walk_at "call") => `(tactic| with_reducible first
  | apply run_call1 | apply run_call2 | apply run_call3 | apply run_call4 | apply run_call5)
local macro_rules | `(tactic| walk_at "kit") => `(tactic| with_unfolding_all first | exact kit_ii | exact kit_ib | exact kit_ss | exact kit_st | exact kit_ts | exact kit_tt | exact kit_it | exact kit_ns)
local macro_rules | `(tactic| walk_at "ix") => `(tactic| first | exact atI_zero | exact atI_one | assumption | (with_unfolding_all exact rfl))
local macro_rules | `(tactic| walk_at "e") => `(tactic| with_reducible first
  | exact run_int | exact run_str | exact run_bl | exact run_non
  | (apply run_var; walk_at "rfl") | (apply run_wld; walk_at "rfl")
  | exact run_a0 | apply run_a
  | apply run_op | apply run_isi | apply run_chain | apply run_not | apply run_neg
  | apply run_tupF | apply run_tail | apply run_slT | apply run_slS | exact runo_none | apply runo_some
  | apply run_cb | exact call_lenT | exact call_lenL | apply call_lenS | exact call_max
  | (apply rp_w; walk_at "rfl") | apply rp_d
  | walk_at "call" | (apply RunV.toD; walk_at "call") | (apply RunV.toE; walk_at "call")
  | apply test_of | apply test_B | apply test_not
  | exact trivial
  | (apply run_dget1I; apply run_tab; walk_at "rfl") | (apply run_dgetI; apply run_tab; walk_at "rfl") | (apply run_dgetI; apply run_varD; walk_at "rfl")
  | walk_at "kit"
  | (show _ = some _; assumption)
  | walk_at "opD")
local macro_rules | `(tactic| walk_at "es") => `(tactic| repeat' (first | walk_at "e"))
local macro_rules | `(tactic| walk_at "k") => `(tactic| with_reducible first
  | apply test_orF | apply test_andT | apply test_notT | apply test_notF
  | apply run_andT | apply run_orF)
local macro_rules | `(tactic| walk_at "kl") => `(tactic| with_reducible first | (apply RunT.is; apply test_of) | (apply RunT.is; apply test_B) | apply RunE.is)
local macro_rules | `(tactic| walk_at "side") => `(tactic| first | assumption | (apply decide_eq_false; assumption) | (apply decide_eq_true; assumption) | (with_unfolding_all exact rfl) | (simp; done) | (apply congrArg PyData.bool; assumption) | (simp [*]; done))
local macro_rules | `(tactic| walk_at "ks") => `(tactic| ((repeat' (first | walk_at "k")); (all_goals (try walk_at "kl")); (repeat' (first | walk_at "e")); (all_goals (try walk_at "side"))))
local macro_rules | `(tactic| walk_at "le") => `(tactic| repeat' (first | exact Le.nil | apply Le.keep | apply Le.drop))

/-! ### the draws' list -/
abbrev IntP (q : Int → Prop) : PyData → Prop := fun d => ∃ z, d = .int z ∧ q z
section
variable {K : PySem.W.Frag} {F : Fx} {r r1 r2 : PEnv} {te ta tb ti : TE} {n n1 n2 : Nat} {E : Pst} {qa qb q : Int → Prop}
theorem rd_int2 {rr : R2} (f : Int → Int → Int) (ha : RunD K F ta r n1 (IntP qa)) (hb : RunD K F tb (tk n1 r) n2 (IntP qb)) (ho : ∀ i j, qa i → qb j → OpD K rr (.int i) (.int j) (.int (f i j)) ∧ q (f i j)) : RunD K F (tOp rr ta tb) r n2 (IntP q) :=
  rd_op ha hb fun a b ⟨i, e1, hi⟩ ⟨j, e2, hj⟩ => by
    subst e1 e2
    obtain ⟨h1, h2⟩ := ho i j hi hj
    exact ⟨_, h1, _, rfl, h2⟩
theorem rd_int {z : Int} (h : RunE K F te r (.int z)) (hw : r[1]? = some (some (.twn n))) (hq : q z) : RunD K F te r n (IntP q) := (rd_pure h hw).imp fun d e => ⟨z, e, hq⟩
theorem rd_tw0 (hw : r[1]? = some (some (.twn n))) : RunD K F (tOp (rIx K) (tVar 1) (tC (.int 0))) r n (IntP fun z => 0 ≤ z ∧ z ≤ (n : Int)) := fun s B H ok Q k => by
  obtain ⟨v, a, p, ns, e1, b1, b2, b3, z, rest, e2, c1, c2, c3⟩ := ok.ent 1 _ hw
  subst e1 e2
  exact ⟨_, a, .inl ⟨p, _, 0, .int z, rfl, rfl, SqL.of b3, atI_zero, k _ B H (Grow.refl ok.bh).toT (TwS.of ok hw (Grow.refl ok.bh)) ⟨_, ⟨z, rfl, c2, c3⟩, .int z⟩⟩⟩
theorem atI_some {al : Type} {xs : List al} {j : Int} (h0 : 0 ≤ j) (h1 : j < (xs.length : Int)) : ∃ x, atI xs j = some x := by
  obtain ⟨k, rfl⟩ : ∃ k : Nat, j = (k : Int) := ⟨j.toNat, by omega⟩
  exact ⟨_, atI_nat (List.getElem?_eq_getElem (by omega))⟩
theorem rd_twI {j : Int} (hw : r[1]? = some (some (.twn n))) (hi : RunE K F ti r (.int j)) (h0 : 0 ≤ j) (h1 : j ≤ (F.m : Int)) : RunD K F (tOp (rIx K) (tVar 1) ti) r n (IntP fun _ => True) := fun s B H ok Q k => by
  obtain ⟨v, a, p, ns, e1, b1, b2, b3, z, rest, e2, c1, c2, c3⟩ := ok.ent 1 _ hw
  subst e1
  refine ⟨_, a, hi s B H ok _ fun y B1 H1 g1 dy => ?_⟩
  cases dy
  obtain ⟨x, hx⟩ := atI_some (xs := ns) h0 (by rw [e2, List.length_cons, c1]; omega)
  have hx' : atI (ns.map V.int) j = some (.int x) := by
    unfold atI at hx ⊢
    rw [List.length_map]
    cases hh : ixN ns.length j with
    | none => rw [hh] at hx; cases hx
    | some i =>
      rw [hh] at hx
      show (ns.map V.int)[i]? = _
      rw [List.getElem?_map, show ns[i]? = some x from hx]
      rfl
  exact .inl ⟨p, _, j, .int x, rfl, rfl, SqL.of (g1.hh _ _ b3), hx', k _ B1 H1 g1.toT (TwS.of ok hw g1) ⟨_, ⟨x, rfl, trivial⟩, .int x⟩⟩
/-- the list is written -/
theorem EnvOk.tw {B H : Hp} {s : L2.St} {p : Addr} {ns : List Int} (ok : EnvOk K F B H s r) (hp : F.tw = some p) (h : TwOk F.m n ns) : EnvOk K F B (L2.upd H p (.lst (ns.map V.int))) s (tk n r) := by
  obtain ⟨hb, hh⟩ := ok.twin p hp
  refine ok.growT ⟨Same.refl _, fun a o e => ?_, fun a o t e => ?_, fun _ _ => rfl, fun a e => ?_⟩ fun p' hp' => ?_
  · rw [upd_ne (fun z => by rw [z, hb] at e; cases e)]
    exact ok.bh a o e
  · rw [upd_ne (fun z => t (by rw [z]; exact hp))]
    exact e
  · by_cases z : a = p
    · rw [z, upd_same]
      simp
    · rw [upd_ne z]
      exact e
  · rw [hp] at hp'
    cases hp'
    exact ⟨ns, upd_same, h⟩
theorem run_tw0 (hw : r[1]? = some (some (.twn n))) (h : RunD K F te r n (IntP fun z => 0 ≤ z ∧ z ≤ (n1 : Int))) (q : E.nx (tk n1 (tk n r))) : RunS K F (tAsg te (gSub (tVar 1) (tC (.int 0)) rSetL)) r E := fun s B H ok D hn hr hb hc =>
  h s B H ok _ fun v B1 H1 g1 t1 ⟨d, ⟨y, e0, y0, y1⟩, dv⟩ => by
    subst e0
    cases dv
    have ok1 := ok.growT g1 t1
    obtain ⟨u, a, p, ns0, e1, b1, b2, b3, _⟩ := ok.ent 1 _ hw
    subst e1
    obtain ⟨ns, c3, z, rest, e2, c4, c5, c6⟩ := t1 p b2
    subst e2
    refine ⟨_, a, p, _, 0, 0, rfl, rfl, c3, ?_, ?_⟩
    · unfold ixN
      rw [if_pos (Int.le_refl _), if_pos (by rw [List.length_map, List.length_cons]; omega)]
      rfl
    · have := ok1.tw (n := n1) (ns := y :: rest) b2 ⟨y, rest, rfl, c4, y0, y1⟩
      exact hn s B1 _ _ q this g1.bb
theorem run_twI {j y : Int} (hw : r[1]? = some (some (.twn n))) (h : RunE K F te r (.int y)) (hi : RunE K F ti r (.int j)) (h0 : 1 ≤ j) (h1 : j ≤ (F.m : Int)) (q : E.nx (tk n r)) : RunS K F (tAsg te (gSub (tVar 1) ti rSetL)) r E := fun s B H ok D hn hr hb hc =>
  h s B H ok _ fun v B1 H1 g1 dv => by
    cases dv
    have ok1 := ok.grow g1
    obtain ⟨u, a, p, ns, e1, b1, b2, b3, z, rest, e2, c4, c5, c6⟩ := ok1.ent 1 _ hw
    subst e1 e2
    refine ⟨_, a, hi s B1 H1 ok1 _ fun w B2 H2 g2 dw => ?_⟩
    cases dw
    obtain ⟨k, rfl⟩ : ∃ k : Nat, j = (k : Int) := ⟨j.toNat, by omega⟩
    have ok2 := ok1.grow g2
    refine ⟨p, _, (k : Int), k, rfl, rfl, g2.hh _ _ b3, ?_, ?_⟩
    · unfold ixN
      rw [if_pos (by omega), if_pos (by rw [List.length_map, List.length_cons]; omega)]
      simp
    · have e : ((z :: rest).map V.int).set k (.int y) = ((z :: rest.set (k - 1) y)).map V.int := by
        obtain ⟨k', rfl⟩ : ∃ k', k = k' + 1 := ⟨k - 1, by omega⟩
        rw [List.map_cons, List.set_cons_succ, List.map_cons, Nat.add_sub_cancel, List.map_set]
      rw [e]
      have := ok2.tw (n := n) (ns := z :: rest.set (k - 1) y) b2 ⟨z, _, rfl, by rw [List.length_set]; exact c4, c5, c6⟩
      exact hn s B2 _ _ q this (g1.bb.trans g2.bb)
end
variable {P : Program} {w : World} {K : PySem.W.Frag} {mg : Str → Option Value} {base : Heap}
/-! ### the first list -/
def spTown (K : PySem.W.Frag) : Sp := fun vs H Q _ => ∃ (B : Hp) (v1 : V) (sc : List Int), vs = [v1] ∧ Same B H ∧ Dp K B v1 (scD sc) ∧ sc.length ≤ 1000 ∧ ∀ p B' H', Grow B H B' H' → H p = none → B' p = none → H' p = some (.lst ((0 :: sc).map V.int)) → Q (.ref p) H'
theorem ok__law_town (T : Tb K mg) : FnOk P w K mg base CX0 1 T._law_town.f T._law_town.fd ["_law_script"] (spTown K) := by
  refine T._law_town.F.ok sc__law_town (fun vs H Q E h => ?_) (fun cdv A outer s H vs Q E hr h => ?_)
  · obtain ⟨B, v1, sc, rfl, _⟩ := h
    rfl
  · obtain ⟨B, v1, sc, rfl, sb, d1, hl, q⟩ := h
    refine ⟨_, (pss_one (ps_ret (pe_op (op_plusK K rfl) (pe_lst (pa_cons pe_int pa_nil)) (pe_callTy call_listA rfl T.g_list (by decide +kernel) (pa_cons (vr 0 rfl (.inl rfl)) pa_nil))))), ?_⟩
    have en : Ents K ⟨H, B, none, 0⟩ B H [v1] [.d (scD sc)] := .cons (show EntOk K _ B H v1 (.d (scD sc)) from d1) (fun ds z => nomatch z) .nil
    have ok := env_start (m := 0) en rfl rfl sb (fun p' e => nomatch e)
    have hrun : RunL K ⟨H, B, none, 0⟩ (tOp (rPlus K) (tLst (tCons (tC (.int 0)) tNil)) (tCB (rListA K) (tCons (tVar 0) tNil))) [some (.d (scD sc))] ([.int 0] ++ sc.map .int) :=
      run_cat (RunL.toR (run_lst (run_a run_int run_a0) (by simp))) (RunL.toR (run_listL (run_a (run_var rfl) run_a0))) (by simp; omega)
    refine hrun _ B H ok _ fun p xs B' H' g hp bp hp' ha => ?_
    have e : xs = (0 :: sc).map V.int := dpAll_ints (bs := 0 :: sc) ha
    rw [e] at hp'
    exact q p B' H' g hp bp hp'
/-! ### a draw -/
abbrev SpDraw (K : PySem.W.Frag) (sc : List Int) : Sp := spT1 K sc 1 (.d (fun (l : Nat) => .int (l : Int))) (fun l => 1 ≤ l ∧ l ≤ 100000) (fun l B v => ∃ k : Nat, k < l ∧ Dp K B v (.int (k : Int)))
theorem mod_res {l : Nat} (h : 1 ≤ l) {i j : Int} (e : j = (l : Int)) : OpD K rModI (.int i) (.int j) (.int (i % j)) ∧ (0 ≤ i % j ∧ i % j < (l : Int)) := by
  subst e
  exact ⟨opd_mod (by omega), Int.emod_nonneg _ (by omega), Int.emod_lt_of_pos _ (by omega)⟩
theorem ok__law_draw (sc : List Int) (hsc : sc.length ≤ 1000) (T : Tb K mg) : FnOk P w K mg base CX0 1 T._law_draw.f T._law_draw.fd ["_law_script", "_law_town_here", "_law_limit"] (SpDraw K sc) :=
  fnT1 T._law_draw.F sc__law_draw fun cdv A outer s H E hr => ⟨_, (pss_cons (ps_asg (pe_op (op_plusK K rfl) (pe_ix (ix_K K rfl) (vr 1 rfl (.inl rfl)) pe_int (fun _ _ => rfl)) pe_int) (pg_sub (vr 1 rfl (.inl rfl)) pe_int set_list)) (pss_cons (ps_if (pt_cmpR (op_eqK K rfl (hu64 hr)) (vr 0 rfl (.inl rfl)) (pe_lst pa_nil) (nomark _)) (pss_one (ps_ret (pe_op op_modI (pe_op op_divI (pe_op op_mulI (pe_op op_mulI (pe_ix (ix_K K rfl) (vr 1 rfl (.inl rfl)) pe_int (fun _ _ => rfl)) (pe_ix (ix_K K rfl) (vr 1 rfl (.inl rfl)) pe_int (fun _ _ => rfl))) pe_int) pe_int) (vr 2 rfl (.inl rfl))))) pss_nil) (pss_cons (ps_set (i := 3) sc__law_draw.nd rfl (.inl rfl) (pe_op op_modI (pe_ix (ix_K K rfl) (vr 1 rfl (.inl rfl)) pe_int (fun _ _ => rfl)) (pe_callB (call_lenK K rfl) rfl T.g_len (by decide +kernel) (pa_cons (vr 0 rfl (.inl rfl)) pa_nil)))) (pss_cons (ps_set (i := 4) sc__law_draw.nd rfl (.inl rfl) (pe_ix (ix_K K rfl) (vr 1 rfl (.inl rfl)) (pe_op (op_plusK K rfl) pe_int (vr 3 rfl (.inl rfl))) (fun _ _ => rfl))) (pss_cons (ps_if (PW.pt (pw_and (pt_cmpR op_geI (pe_ix (ix_K K rfl) (vr 0 rfl (.inl rfl)) (vr 3 rfl (.inl rfl)) (fun _ _ => rfl)) (pe_op op_powI pe_int pe_int) (nomark _)) (pw_and1 (pt_cmpR op_gtI (vr 4 rfl (.inl rfl)) pe_int (nomark _))))) (pss_cons (ps_asg (pe_op op_divI (vr 4 rfl (.inl rfl)) (vr 2 rfl (.inl rfl))) (pg_sub (vr 1 rfl (.inl rfl)) (pe_op (op_plusK K rfl) pe_int (vr 3 rfl (.inl rfl))) set_list)) (pss_one (ps_ret (pe_op op_modI (vr 4 rfl (.inl rfl)) (vr 2 rfl (.inl rfl)))))) pss_nil) (pss_cons (ps_set (i := 5) sc__law_draw.nd rfl (.inl rfl) (pe_op op_modI (pe_op (op_plusK K rfl) (pe_ix (ix_K K rfl) (vr 0 rfl (.inl rfl)) (vr 3 rfl (.inl rfl)) (fun _ _ => rfl)) (pe_op op_mulI pe_int (pe_ix (ix_K K rfl) (vr 1 rfl (.inl rfl)) pe_int (fun _ _ => rfl)))) pe_int)) (pss_cons (ps_set (i := 5) sc__law_draw.nd rfl (.inl rfl) (pe_op op_modI (pe_op op_powI (vr 5 rfl (.inl rfl)) pe_int) pe_int)) (pss_one (ps_ret (pe_op op_modI (pe_op op_divI (pe_op op_modI (pe_op (op_plusK K rfl) (pe_op op_mulI (pe_op op_divI (vr 5 rfl (.inl rfl)) pe_int) pe_int) (vr 5 rfl (.inl rfl))) pe_int) pe_int) (vr 2 rfl (.inl rfl)))))))))))), fun l ⟨hl1, hl2⟩ F n hF hn => by
    simp only [cxK, cxK2, List.map_cons, List.map_nil, List.length_cons, List.length_nil, List.replicate, List.cons_append, List.nil_append, List.append_nil, Pk.ent, Nat.reduceAdd, Nat.reduceSub]
    have res : ∀ {te : TE} {r : PEnv} {m : Nat}, m ≤ n + 1 → (tk m r)[1]? = some (some (.twn m)) → RunD K F te r m (IntP fun z => 0 ≤ z ∧ z < (l : Int)) → ∀ rt : PEnv → Hp → V → Prop, (∀ r' B v, (∃ m, r'[1]? = some (some (.twn m)) ∧ m ≤ n + 1) → (∃ k : Nat, k < l ∧ Dp K B v (.int (k : Int))) → rt r' B v) → ∀ E : Pst, E.rt = rt → RunS K F (tRet te) r E := fun {te r m} hm hw h rt hrt E hE => by
      refine run_retX h fun B v ⟨d, ⟨z, e, h1, h2⟩, dv⟩ => ?_
      subst e
      rw [hE]
      refine hrt _ _ _ ⟨m, hw, hm⟩ ⟨z.toNat, by omega, ?_⟩
      rw [Int.toNat_of_nonneg h1]
      exact dv
    refine run_seq (run_tw0 (n1 := n + 1) rfl (rd_int2 (fun i j => i + j) (rd_tw0 rfl) (rd_int run_int rfl (q := fun z => z = 1) rfl) fun i j ⟨h1, h2⟩ h3 => ⟨opd_plusI, by omega, by omega⟩) ?_)
    show RunS K F _ [some (.d (scD sc)), some (.twn (n + 1)), some (.d (.int (l : Int))), none, none, none] _
    refine run_seq (run_iff (k := sc.isEmpty) (RunT.is (test_op (run_var rfl) (RunL.toE (run_lst run_a0 (by simp))) (opb_eqD (Sh.lst (m := 0) (ShA.map fun x _ => .int)).shaped (Sh.lst (m := 0) ShA.nil).shaped)) ?_) (fun hk => ?_) (fun hk => run_next ?_))
    · cases sc <;> simp [PyData.eqv, PyData.eqvAll]
    · refine res (Nat.le_refl _) rfl (rd_int2 (fun i j => i % j) (rd_int2 (fun i j => i / j) (rd_int2 (fun i j => i * j) (rd_int2 (fun i j => i * j) (rd_tw0 rfl) (rd_tw0 rfl) (q := fun _ => True) fun i j ⟨h1, h2⟩ ⟨h3, h4⟩ => ⟨opd_mul (.inl ⟨by omega, by omega⟩), trivial⟩) (rd_int run_int rfl (q := fun z => z = 7) rfl) (q := fun _ => True) fun i j _ h3 => ⟨opd_mul (.inr ⟨by omega, by omega⟩), trivial⟩) (rd_int run_int rfl (q := fun z => z = 3) rfl) (q := fun _ => True) fun i j _ h3 => ⟨opd_div ⟨by omega, by omega⟩, trivial⟩) (rd_int (run_var rfl) rfl (q := fun z => z = (l : Int)) rfl) fun i j _ h3 => mod_res hl1 h3) _ (fun r' B v a b => ⟨a, b⟩) _ rfl
    have hpos : 0 < sc.length := by
      cases sc with
      | nil => cases hk
      | cons a b => simp
    refine run_seq (run_asgX (rd_int2 (fun i j => i % j) (rd_tw0 rfl) (rd_int (RunE.is (run_cb (run_a (run_var rfl) run_a0) call_lenL) (by rw [List.length_map])) rfl (q := fun z => z = (sc.length : Int)) rfl) (q := fun z => 0 ≤ z ∧ z < (sc.length : Int)) fun i j _ h3 => mod_res hpos h3) ?_)
    rintro d ⟨at_, rfl, h1, h2⟩
    show RunS K F _ [some (.d (scD sc)), some (.twn (n + 1)), some (.d (.int (l : Int))), some (.d (.int at_)), none, none] _
    have hat : RunE K F (tOp (rPlus K) (tC (.int 1)) (tVar 3)) [some (.d (scD sc)), some (.twn (n + 1)), some (.d (.int (l : Int))), some (.d (.int at_)), none, none] (.int (1 + at_)) := run_op run_int (run_var rfl) opd_plusI
    refine run_seq (run_asgX (rd_twI rfl hat (by omega) (by rw [hF]; omega)) ?_)
    rintro d ⟨left, rfl, _⟩
    show RunS K F _ [some (.d (scD sc)), some (.twn (n + 1)), some (.d (.int (l : Int))), some (.d (.int at_)), some (.d (.int left)), none] _
    obtain ⟨x, hx⟩ := atI_some (xs := sc.map PyData.int) h1 (by rw [List.length_map]; exact h2)
    obtain ⟨cell, rfl⟩ : ∃ c : Int, x = .int c := by
      obtain ⟨j, _, e2, _⟩ := atI_get hx
      rw [List.getElem?_map] at e2
      obtain ⟨c, _, e⟩ := Option.map_eq_some_iff.mp e2
      exact ⟨c, e.symm⟩
    refine run_seq (run_iff (k := decide ((10 : Int) ^ (18 : Int).toNat ≤ cell) && decide (0 < left)) (test_and (test_op (run_op (run_var rfl) (run_var rfl) (opd_ixL hx)) (run_op run_int run_int (opd_pow ⟨by omega, by omega, by decide⟩)) opb_geI) fun _ => test_op (run_var rfl) run_int opb_gtI) (fun hk2 => ?_) (fun hk2 => run_next ?_))
    · refine run_seq (run_twI rfl (run_op (run_var rfl) (run_var rfl) (opd_div ⟨by omega, by omega⟩)) (run_op run_int (run_var rfl) opd_plusI) (by omega) (by rw [hF]; omega) ?_)
      show RunS K F _ [some (.d (scD sc)), some (.twn (n + 1)), some (.d (.int (l : Int))), some (.d (.int at_)), some (.d (.int left)), none] _
      exact res (Nat.le_refl _) rfl (rd_int2 (fun i j => i % j) (rd_int (run_var rfl) rfl (q := fun _ => True) trivial) (rd_int (run_var rfl) rfl (q := fun z => z = (l : Int)) rfl) fun i j _ h3 => mod_res hl1 h3) _ (fun r' B v a b => ⟨a, b⟩) _ rfl
    refine run_seq (run_asgX (rd_int2 (fun i j => i % j) (rd_int2 (fun i j => i + j) (rd_int (run_op (run_var rfl) (run_var rfl) (opd_ixL hx)) rfl (q := fun _ => True) trivial) (rd_int2 (fun i j => i * j) (rd_int run_int rfl (q := fun z => z = 104729) rfl) (rd_tw0 rfl) (q := fun _ => True) fun i j h3 _ => ⟨opd_mul (.inl ⟨by omega, by omega⟩), trivial⟩) (q := fun _ => True) fun i j _ _ => ⟨opd_plusI, trivial⟩) (rd_int run_int rfl (q := fun z => z = 4294967291) rfl) (q := fun z => 0 ≤ z ∧ z < 4294967291) fun i j _ h3 => ?_) ?_)
    · subst h3
      exact ⟨opd_mod (by decide), Int.emod_nonneg _ (by decide), Int.emod_lt_of_pos _ (by decide)⟩
    rintro d ⟨num, rfl, h3, h4⟩
    show RunS K F _ [some (.d (scD sc)), some (.twn (n + 1)), some (.d (.int (l : Int))), some (.d (.int at_)), some (.d (.int left)), some (.d (.int num))] _
    refine run_asgq (run_op (run_op (run_var rfl) run_int (opd_pow ⟨by omega, by omega, by omega⟩)) run_int (opd_mod (by decide))) ?_
    generalize num ^ (5 : Int).toNat % 4294967279 = num2
    show RunS K F _ [some (.d (scD sc)), some (.twn (n + 1)), some (.d (.int (l : Int))), some (.d (.int at_)), some (.d (.int left)), some (.d (.int num2))] _
    exact res (Nat.le_refl _) rfl (rd_int2 (fun i j => i % j) (rd_int (run_op (run_op (run_op (run_op (run_op (run_var rfl) run_int (opd_div ⟨by omega, by omega⟩)) run_int (opd_mul (.inr ⟨by omega, by omega⟩))) (run_var rfl) opd_plusI) run_int (opd_mod (by decide))) run_int (opd_div ⟨by omega, by omega⟩)) rfl (q := fun _ => True) trivial) (rd_int (run_var rfl) rfl (q := fun z => z = (l : Int)) rfl) fun i j _ h3 => mod_res hl1 h3) _ (fun r' B v a b => ⟨a, b⟩) _ rfl⟩
end Ts
set_option Elab.async false
set_option linter.all false
set_option maxRecDepth 100000
set_option maxHeartbeats 2000000
namespace Ts
open PySem PySem.Spec PyProof.Rows L2
local macro_rules | `(tactic| walk_at "go") => `(tactic| simp only [cxK, cxK2, List.map_cons, List.map_nil, List.length_cons, List.length_nil, List.replicate, List.cons_append, List.nil_append, List.append_nil, Pk.ent, Nat.reduceAdd, Nat.reduceSub])
local macro_rules | `(tactic| walk_at "rfl") => `(tactic| with_unfolding_all exact rfl)
local macro_rules | `(tactic| walk_at "op") => `(tactic| with_reducible first
  | exact opd_plusI | exact opd_sub | exact opd_mod (by decide) | exact opb_eqI | exact opb_neI | exact opb_eqS | exact opb_neS | exact opb_eqB | exact opb_neB
  | exact opb_leI | exact opb_gtI | exact opb_geI | exact opb_ltI | exact opb_ltS | exact opb_isN | exact opb_notN | exact opb_inSgF | exact opb_inSLF | exact opb_inSTF | exact opb_inSLT | exact opb_inSTT | exact opb_inS2F | exact opb_inS2T
  | (apply opd_ixT; try walk_at "ix") | (apply opd_ixL; try walk_at "ix") | (apply opd_ixS; rotate_left; try walk_at "ix"; rotate_right) | apply opd_plusT | apply opd_mul | apply opd_div | apply opd_pow)
local macro_rules | `(tactic| walk_at "opD") => `(tactic| with_reducible first
  | walk_at "op" | (apply OpB.toD; walk_at "op"))
local macro_rules | `(tactic| walk_at "call") => `(tactic| with_reducible first
  | apply run_call1 | apply run_call2 | apply run_call3 | apply run_call4 | apply run_call5)
local macro_rules | `(tactic| walk_at "kit") => `(tactic| with_unfolding_all first | exact kit_ii | exact kit_ib | exact kit_ss | exact kit_st | exact kit_ts | exact kit_tt | exact kit_it | exact kit_ns)
local macro_rules | `(tactic| walk_at "ix") => `(tactic| first | exact atI_zero | exact atI_one | assumption | (with_unfolding_all exact rfl))
local macro_rules | `(tactic| walk_at "e") => `(tactic| with_reducible first
  | exact run_int | exact run_str | exact run_bl | exact run_non
  | (apply run_var; walk_at "rfl") | (apply run_wld; walk_at "rfl")
  | exact run_a0 | apply run_a
  | apply run_op | apply run_isi | apply run_chain | apply run_not | apply run_neg
  | apply run_tupF | apply run_tail | apply run_slT | apply run_slS | exact runo_none | apply runo_some
  | apply run_cb | exact call_lenT | exact call_lenL | apply call_lenS | exact call_max
  | (apply rp_w; walk_at "rfl") | apply rp_d
  | walk_at "call" | (apply RunV.toD; walk_at "call") | (apply RunV.toE; walk_at "call")
  | apply test_of | apply test_B | apply test_not
  | exact trivial
  | (apply run_dget1I; apply run_tab; walk_at "rfl") | (apply run_dgetI; apply run_tab; walk_at "rfl") | (apply run_dgetI; apply run_varD; walk_at "rfl")
  | walk_at "kit"
  | (show _ = some _; assumption)
  | walk_at "opD")
local macro_rules | `(tactic| walk_at "es") => `(tactic| repeat' (first | walk_at "e"))
local macro_rules | `(tactic| walk_at "k") => `(tactic| with_reducible first
  | apply test_orF | apply test_andT | apply test_notT | apply test_notF
  | apply run_andT | apply run_orF)
local macro_rules | `(tactic| walk_at "kl") => `(tactic| with_reducible first | (apply RunT.is; apply test_of) | (apply RunT.is; apply test_B) | apply RunE.is)
local macro_rules | `(tactic| walk_at "side") => `(tactic| first | assumption | (apply decide_eq_false; assumption) | (apply decide_eq_true; assumption) | (with_unfolding_all exact rfl) | (simp; done) | (apply congrArg PyData.bool; assumption) | (simp [*]; done))
local macro_rules | `(tactic| walk_at "ks") => `(tactic| ((repeat' (first | walk_at "k")); (all_goals (try walk_at "kl")); (repeat' (first | walk_at "e")); (all_goals (try walk_at "side"))))
local macro_rules | `(tactic| walk_at "le") => `(tactic| repeat' (first | exact Le.nil | apply Le.keep | apply Le.drop))

section
variable {K : PySem.W.Frag} {F : Fx} {r r1 r2 : PEnv} {te ta tb ti t3 th : TE} {n n1 n2 : Nat} {E : Pst} {ds : List PyData} {sc : List Int} {ls ls' : List (List PyData)}
/-! ### picks -/
def spPick (K : PySem.W.Frag) (sc : List Int) : Sp := fun vs H Q _ => ∃ (B : Hp) (v1 : V) (p : Addr) (ns : List Int) (n : Nat) (q : Addr) (xs : List V) (ds : List PyData), vs = [v1, .ref p, .ref q] ∧ Same B H ∧ Dp K B v1 (scD sc) ∧ B p = none ∧ H p = some (.lst (ns.map V.int)) ∧ TwOk sc.length n ns ∧ n + 1 ≤ 1000000 ∧
  SqL K B q xs ∧ DpAll K B xs ds ∧ 0 < ds.length ∧ ds.length ≤ 1000 ∧ ∀ v B' H', GrowT (some p) B H B' H' → (∃ ns' : List Int, H' p = some (.lst (ns'.map V.int)) ∧ TwOk sc.length (n + 1) ns') → v ∈ xs → Q v H'
theorem run_pick0 (W : Hp → V → Prop) (hF : F.m = sc.length) (hs : r[0]? = some (some (.d (scD sc)))) (hw : r[1]? = some (some (.twn n))) (hn : n + 1 ≤ 1000000)
    (h3 : RunV K F t3 r (fun B v => ∃ q xs ds, v = .ref q ∧ SqL K B q xs ∧ DpAll K B xs ds ∧ 0 < ds.length ∧ ds.length ≤ 1000 ∧ ∀ x ∈ xs, ∀ B', Same B B' → W B' x)) :
    RunX K F (tCall (spPick K sc) [] E0 (tCons (tVar 0) (tCons (tVar 1) (tCons t3 tNil)))) r (n + 1) W := fun s B H ok Q k => by
  obtain ⟨v1, a1, d1⟩ := ok.ent 0 _ hs
  obtain ⟨v2, a2, p, ns, e1, b1, b2, b3, b4⟩ := ok.ent 1 _ hw
  subst e1
  rw [hF] at b4
  refine ⟨_, a1, _, a2, h3 s B H ok _ fun v3 B3 H3 g3 ⟨q, xs, ds, e3, c1, c2, c3, c4, c5⟩ => ?_⟩
  subst e3
  refine ⟨B3, v1, p, ns, n, q, xs, ds, rfl, g3.bh, dp_mono g3.bb _ _ d1, by rw [g3.new p (by rw [b3]; simp)]; exact b1, g3.hh _ _ b3, b4, hn, c1, c2, c3, c4, fun v B' H' g t hv => k v B' H' ?_ (fun p' hp' => ?_) (c5 v hv B' g.bb)⟩
  · rw [b2]
    exact g3.toT.trans g
  · rw [b2] at hp'
    cases hp'
    rw [hF]
    exact t
theorem dpAll_of_mem : ∀ {ds : List PyData} {xs : List V} {B : Hp}, DpAll K B xs ds → ∀ x ∈ xs, ∃ d ∈ ds, Dp K B x d
  | [], _, _, h, x, hx => by cases h; cases hx
  | d :: ds, _, _, h, x, hx => by
    cases h with
    | cons h1 h2 =>
      cases hx with
      | head => exact ⟨d, List.mem_cons_self, h1⟩
      | tail _ hx =>
        obtain ⟨e, he, q⟩ := dpAll_of_mem h2 x hx
        exact ⟨e, List.mem_cons_of_mem _ he, q⟩
theorem run_pick (hF : F.m = sc.length) (hs : r[0]? = some (some (.d (scD sc)))) (hw : r[1]? = some (some (.twn n))) (hn : n + 1 ≤ 1000000) (h3 : RunE K F t3 r (.list ds)) (h0 : 0 < ds.length) (h1 : ds.length ≤ 1000) :
    RunD K F (tCall (spPick K sc) [] E0 (tCons (tVar 0) (tCons (tVar 1) (tCons t3 tNil)))) r (n + 1) (fun d => d ∈ ds) :=
  run_pick0 _ hF hs hw hn fun s B H ok Q q => h3 s B H ok Q fun v B' H' g dv => q v B' H' g (by
    obtain ⟨a, xs, rfl, hs, ha⟩ := dp_lst dv
    refine ⟨a, xs, ds, rfl, hs, ha, h0, h1, fun x hx B2 sb => ?_⟩
    obtain ⟨d, hd, dx⟩ := dpAll_of_mem ha x hx
    exact ⟨d, hd, dp_mono sb _ _ dx⟩)
/-- lists of plain tuples -/
theorem plain_dp {B : Hp} {b : Addr} {l : List PyData} (h : PlainT K B b l) : Dp K B (.ref b) (.tuple l) := by
  obtain ⟨o, ys, h1, _, _, h2⟩ := h
  exact .tup (.inl (.inr ⟨o, h1⟩)) h2
theorem lw_all : ∀ {ls : List (List PyData)} {B : Hp} {xs : List V}, xs.length = ls.length → (∀ (i : Nat) (l : List PyData), ls[i]? = some l → ∃ b, xs[i]? = some (.ref b) ∧ PlainT K B b l) → DpAll K B xs (ls.map .tuple)
  | [], B, [], _, _ => .nil
  | [], _, _ :: _, h, _ => by simp at h
  | _ :: _, _, [], h, _ => by simp at h
  | l :: ls, B, x :: xs, h, hp => by
    obtain ⟨b, e, hb⟩ := hp 0 l rfl
    have e : x = .ref b := by simpa using e
    subst e
    exact .cons (plain_dp hb) (lw_all (by simpa using h) fun i l q => by
      obtain ⟨b, e, hb⟩ := hp (i + 1) l (by simpa using q)
      exact ⟨b, by simpa using e, hb⟩)
theorem run_pickL {i : Nat} (hF : F.m = sc.length) (hs : r[0]? = some (some (.d (scD sc)))) (hw : r[1]? = some (some (.twn n))) (hn : n + 1 ≤ 1000000) (h3 : r[i]? = some (some (.lw ls))) (h0 : 0 < ls.length) (h1 : ls.length ≤ 1000) :
    RunX K F (tCall (spPick K sc) [] E0 (tCons (tVar 0) (tCons (tVar 1) (tCons (tVar i) tNil)))) r (n + 1) (fun B v => ∃ l ∈ ls, ∃ b, v = .ref b ∧ PlainT K B b l) :=
  run_pick0 _ hF hs hw hn fun s B H ok Q q => by
    obtain ⟨v, a, p, xs, rfl, c1, c2, c3⟩ := ok.ent i _ h3
    refine ⟨_, a, q _ B H (Grow.refl ok.bh) ⟨p, xs, _, rfl, SqL.of c1, lw_all c2 c3, by rw [List.length_map]; exact h0, by rw [List.length_map]; exact h1, fun x hx B' sb => ?_⟩⟩
    obtain ⟨j, hj⟩ := List.getElem?_of_mem hx
    have hjl := (List.getElem?_eq_some_iff.mp hj).1
    obtain ⟨b, e, hb⟩ := c3 j ls[j] (List.getElem?_eq_getElem (by omega))
    rw [hj] at e
    cases e
    exact ⟨_, List.getElem_mem _, b, rfl, hb.mono sb⟩
def RunAW (K : PySem.W.Frag) (F : Fx) (ta : TA) (r : PEnv) (ls : List (List PyData)) : Prop := ∀ s B H, EnvOk K F B H s r → ∀ Q : List V → Hp → Prop, (∀ vs B' H', Grow B H B' H' → (vs.length = ls.length ∧ ∀ (i : Nat) (l : List PyData), ls[i]? = some l → ∃ b, vs[i]? = some (.ref b) ∧ PlainT K B' b l) → Q vs H') → ta s H Q
theorem raw_nil : RunAW K F tNil r [] := fun s B H ok Q q => q [] B H (Grow.refl ok.bh) ⟨rfl, fun i l e => by simp at e⟩
theorem raw_cons {ta tr : TA} {l : List PyData} (h : RunA K F ta r l) (hl : l.length ≤ 1000000) (hr : RunAW K F tr r ls) : RunAW K F (tCons (tTupF ta) tr) r (l :: ls) := fun s B H ok Q q => run_tupP h hl s B H ok _ fun v B1 H1 g1 ⟨_, b, e, hb⟩ => by
  subst e
  refine hr s B1 H1 (ok.grow g1) _ fun vs B2 H2 g2 ⟨c1, c2⟩ => q _ B2 H2 (g1.trans g2) ⟨by rw [List.length_cons, List.length_cons, c1], fun i l' e => ?_⟩
  cases i with
  | zero =>
    have e : l = l' := by simpa using e
    subst e
    exact ⟨b, rfl, hb.mono g2.bb⟩
  | succ i =>
    obtain ⟨b', e1, e2⟩ := c2 i l' (by simpa using e)
    exact ⟨b', by simpa using e1, e2⟩
theorem run_lstW {ta : TA} (h : RunAW K F ta r ls) (hl : ls.length ≤ 1000000) : RunV K F (tLst ta) r (fun B v => LwOk K B v ls) := fun s B H ok Q q => h s B H ok _ fun vs B1 H1 g1 ⟨c1, c2⟩ =>
  ⟨by rw [c1]; exact line_of hl, fun p hp => q _ _ _ (g1.trans ((Grow.out g1.bh hp).freeze hp (g1.bh.free hp) upd_same)) ⟨p, vs, rfl, upd_same, c1, fun i l e => by
    obtain ⟨b, e1, e2⟩ := c2 i l e
    exact ⟨b, e1, e2.mono (Same.new (g1.bh.free hp))⟩⟩⟩
theorem run_catW {i : Nat} (hi : r[i]? = some (some (.lw ls))) (h : RunV K F tb r (fun B v => LwOk K B v ls')) (hl : ls.length + ls'.length ≤ 1000000) : RunV K F (tOp (rPlus K) (tVar i) tb) r (fun B v => LwOk K B v (ls ++ ls')) := fun s B H ok Q q => by
  obtain ⟨v, a, hv⟩ := ok.ent i _ hi
  refine ⟨_, a, h s B H ok _ fun u B1 H1 g1 ⟨p2, ys, e2, d1, d2, d3⟩ => ?_⟩
  obtain ⟨p, xs, e, c1, c2, c3⟩ := LwOk.mono g1.bb hv
  subst e e2
  refine .inr (.inr ⟨p, p2, xs, ys, rfl, rfl, g1.bh _ _ c1, g1.bh _ _ d1, by rw [c2, d2]; exact line_of hl, fun l hl => q _ _ _ (g1.trans ((Grow.out g1.bh hl).freeze hl (g1.bh.free hl) upd_same)) ⟨l, xs ++ ys, rfl, upd_same, by rw [List.length_append, List.length_append, c2, d2], fun j m e => ?_⟩⟩)
  have sb := Same.new (o := HO.lst (xs ++ ys)) (g1.bh.free hl)
  by_cases hj : j < ls.length
  · rw [List.getElem?_append_left hj] at e
    obtain ⟨b, e1, e2⟩ := c3 j m e
    exact ⟨b, by rw [List.getElem?_append_left (by omega)]; exact e1, e2.mono sb⟩
  · rw [List.getElem?_append_right (by omega)] at e
    obtain ⟨b, e1, e2⟩ := d3 _ m e
    exact ⟨b, by rw [List.getElem?_append_right (by omega), c2]; exact e1, e2.mono sb⟩
theorem run_asgLw {i : Nat} (h : RunV K F te r (fun B v => LwOk K B v ls)) (q : E.nx (r.set i (some (.lw ls)))) : RunS K F (tAsg te (gName i)) r E := fun s B H ok D hn hr hb hc =>
  h s B H ok _ fun v B' H' g dv => hn _ B' H' _ q ((ok.grow g).set i (e := .lw ls) dv fun ds p e => by cases e) g.bb
/-- a, b = [], [] -/
theorem run_par2L {i j : Nat} {d1 d2 : List PyData} (hij : i ≠ j) (h1 : RunL K F ta r d1) (h2 : RunL K F tb r d2) (q : E.nx ((r.set i (some (.own d1))).set j (some (.own d2)))) : RunS K F (tPar i j (tCons ta (tCons tb tNil))) r E := fun s B H ok D hn hr hb hc =>
  h1 s B H ok _ fun p xs B1 H1 g1 hp bp hp1 ha => h2 s B1 H1 (ok.grow g1) _ fun p2 ys B2 H2 g2 hp2 bp2 hq2 ha2 => by
    refine ⟨_, _, rfl, ?_⟩
    have ok2 := ok.grow (g1.trans g2)
    have nt : ∀ {a : Addr}, H a = none → F.tw ≠ some a := fun {a} ha e => (ok.twin a e).2 ha
    have ne : ∀ {a : Addr}, H a = none → F.He a = none := fun {a} ha => by
      cases e : F.He a with
      | none => rfl
      | some o =>
        have := ok.keep a o e (nt ha)
        rw [ha] at this
        cases this
    have hp2' : H p2 = none := Same.free g1.hh hp2
    have hpp : p ≠ p2 := fun e => by rw [e, hp2] at hp1; cases hp1
    have old : ∀ {a : Addr} (k : Nat) (dk : List PyData), H a = none → r[k]? = some (some (.own dk)) → s[k]? = some (some (.ref a)) → False := fun {a} k dk ha hk hs => by
      obtain ⟨v, a', p3, xs3, e, b1, b2, b3, b4, b5⟩ := ok.ent k _ hk
      rw [hs] at a'
      cases a'
      cases e
      rw [ha] at b4
      cases b4
    have ok3 := ok2.set i (v := .ref p) (e := .own d1) ⟨p, xs, rfl, by rw [g2.new p (by rw [hp1]; simp)]; exact bp, ne hp, nt hp, g2.hh _ _ hp1, dpAll_mono g2.bb _ _ ha⟩ fun ds' p' e1 e2 k dk hk hr' hs' => by
      cases e2
      exact old k dk hp hr' hs'
    refine hn _ B2 H2 _ q (ok3.set j (v := .ref p2) (e := .own d2) ⟨p2, ys, rfl, bp2, ne hp2', nt hp2', hq2, ha2⟩ fun ds' p' e1 e2 k dk hk hr' hs' => ?_) (g1.bb.trans g2.bb)
    cases e2
    rcases get_set hr' with ⟨rfl, _, hl⟩ | ⟨hki, hr'⟩
    · rw [List.getElem?_set_self (by rw [ok2.len]; exact hl)] at hs'
      injection hs' with hs'
      injection hs' with hs'
      injection hs' with hs'
      exact hpp hs'
    · rw [List.getElem?_set_ne (Ne.symm hki)] at hs'
      exact old k dk hp2' hr' hs'
/-- l[:e], e drawn -/
theorem rd_slHi {q : Int → Prop} (h : RunE K F te r (.list ds)) (hh : RunD K F th r n (IntP q)) : RunD K F (tSl (rSlAny K) te tNoPart (tPart th)) r n (fun d => ∃ z, q z ∧ d = .list (cutD ds none (some z))) := fun s B H ok Q k =>
  h s B H ok _ fun v B1 H1 g1 dv => hh s B1 H1 (ok.grow g1) _ fun w B2 H2 g2 t2 ⟨d, ⟨z, e, hz⟩, dw⟩ => by
    subst e
    cases dw
    obtain ⟨p, xs, rfl, h1, a1⟩ := dp_lst dv
    refine ⟨z, rfl, .inr (.inl ⟨p, xs, rfl, (g2.bb.trans g2.bh).seq h1, fun l hl => ?_⟩)⟩
    have g3 := (Grow.out (o := .lst (cutV xs none (some z))) g2.bh hl).freeze hl (g2.bh.free hl) upd_same
    exact k _ _ _ ((g1.toT.trans g2).trans g3.toT) (t2.grow g3) ⟨_, ⟨z, hz, rfl⟩, .lst (SqL.of upd_same) (cut_dp (dpAll_mono (g2.bb.trans (Same.new (g2.bh.free hl))) _ _ a1))⟩
/-- a loop whose state is told by Inv -/
theorem run_forI {al : Type} {vs : List Nat} {wi : TI} {g : TG} {t : TS} (enc : al → PyData) (ok : List al → Prop) (Inv : List al → Nat → PEnv → Prop) (hi : RunIX K F StabS wi r n (fun ds => ∃ l, ds = l.map enc ∧ ok l)) (h0 : ∀ l, ok l → ∃ r0, Inv l 0 r0 ∧ Le r0 (tk n r))
    (ht : ∀ l, ok l → ∀ (i : Nat) (x : al) (r0 : PEnv), l[i]? = some x → Inv l i r0 → ∃ r1, RunG K F vs g (enc x) r0 r1 ∧ RunS K F t r1 { E with nx := fun r' => ∃ r2, Inv l (i + 1) r2 ∧ Le r2 r', ct := fun r' => ∃ r2, Inv l (i + 1) r2 ∧ Le r2 r', bk := E.nx })
    (hd : ∀ l r0, ok l → Inv l l.length r0 → E.nx r0) :
    RunS K F (tFor wi g t) r E := fun s B H ok0 D hn hr hb hc =>
  hi s B H ok0 _ fun J G B1 H1 ds g1 t1 ⟨l, hl, okl⟩ hG hst w => by
    subst hl
    obtain ⟨r0, i0, le0⟩ := h0 l okl
    refine for_it w.walk (fun i s' Hc => ∃ Bc r0, Inv l i r0 ∧ EnvOk K F Bc Hc s' r0 ∧ G Bc Hc ∧ Same B Bc) ⟨B1, r0, i0, (ok0.growT g1 t1).weak le0, hG, g1.bb⟩ (fun i s' Hc _ ⟨Bc, _, _, _, q, _⟩ => ⟨Bc, q⟩) (fun i x s' Hc H' hi ⟨Bc, r0, hI, ok', q, sb⟩ y => ?_) (fun s' Hc ⟨Bc, r0, hI, ok', q, sb⟩ => hn s' Bc Hc _ (by rw [List.length_map] at hI; exact hd l r0 okl hI) ok' sb)
    obtain ⟨B', d, gr, hdi, dx⟩ := y Bc q ok'.bh
    rw [List.getElem?_map] at hdi
    obtain ⟨x', hx', rfl⟩ := Option.map_eq_some_iff.mp hdi
    obtain ⟨r1, hg, hbody⟩ := ht l okl i x' r0 hx' hI
    refine hg s' B' H' x (ok'.grow gr) dx _ fun s2 ok2 _ => ?_
    refine hbody s2 B' H' ok2 _ (fun s3 B3 H3 r3 ⟨r2, hI2, le⟩ ok3 sb3 => ⟨B3, r2, hI2, ok3.weak le, hst _ _ _ _ q (gr.bb.trans sb3) ok3.bh, sb.trans (gr.bb.trans sb3)⟩) (fun v s3 B3 H3 r3 q3 ok3 sb3 => hr v s3 B3 H3 r3 q3 ok3 (sb.trans (gr.bb.trans sb3)))
      (fun s3 B3 H3 r3 q3 ok3 sb3 => hn s3 B3 H3 r3 q3 ok3 (sb.trans (gr.bb.trans sb3))) (fun s3 B3 H3 r3 ⟨r2, hI2, le⟩ ok3 sb3 => ⟨B3, r2, hI2, ok3.weak le, hst _ _ _ _ q (gr.bb.trans sb3) ok3.bh, sb.trans (gr.bb.trans sb3)⟩)
end
variable {P : Program} {w : World} {K : PySem.W.Frag} {mg : Str → Option Value} {base : Heap}
theorem ok__law_pick (sc : List Int) (hsc : sc.length ≤ 1000) (T : Tb K mg) : FnOk P w K mg base CX0 2 T._law_pick.f T._law_pick.fd ["_law_script", "_law_town_here", "_law_choices"] (spPick K sc) := by
  have G__law_draw := ok__law_draw (P := P) (w := w) (base := base) sc hsc T
  refine T._law_pick.F.ok sc__law_pick (fun vs H Q E h => ?_) (fun cdv A outer s H vs Q E hr h => ?_)
  · obtain ⟨B, v1, p, ns, n, q, xs, ds, rfl, _⟩ := h
    rfl
  · obtain ⟨B, v1, p, ns, n, q, xs, ds, rfl, sb, d1, b1, b2, b3, hn, c1, c2, c3, c4, k⟩ := h
    refine ⟨_, (pss_one (ps_ret (pe_ix (ix_K K rfl) (vr 2 rfl (.inl rfl)) (pe_call G__law_draw (hr.mono (by omega)) rfl T._law_draw.m T._law_draw.F.kp T._law_draw.b .nil pass0 (pa_cons (vr 0 rfl (.inl rfl)) (pa_cons (vr 1 rfl (.inl rfl)) (pa_cons (pe_callB (call_lenK K rfl) rfl T.g_len (by decide +kernel) (pa_cons (vr 2 rfl (.inl rfl)) pa_nil)) pa_nil)))) (fun _ _ => rfl)))), ?_⟩
    have en : Ents K ⟨H, B, some p, sc.length⟩ B H [v1, .ref p, .ref q] [.d (scD sc), .twn n, .d (.list ds)] := .cons (show EntOk K _ B H v1 (.d (scD sc)) from d1) (fun ds z => nomatch z) <| .cons (show EntOk K _ B H (.ref p) (.twn n) from ⟨p, ns, rfl, b1, rfl, b2, b3⟩) (fun ds z => nomatch z) <| .cons (show EntOk K _ B H (.ref q) (.d (.list ds)) from .lst c1 c2) (fun ds z => nomatch z) .nil
    have ok := env_start (m := 0) en rfl rfl sb (fun p' e => by cases e; exact ⟨b1, by rw [b2]; simp⟩)
    have hdraw : RunX K ⟨H, B, some p, sc.length⟩ (tCall (SpDraw K sc) [] E0 (tCons (tVar 0) (tCons (tVar 1) (tCons (tCB (rLenA K) (tCons (tVar 2) tNil)) tNil)))) [some (.d (scD sc)), some (.twn n), some (.d (.list ds))] (n + 1) (fun B v => ∃ j : Nat, j < ds.length ∧ Dp K B v (.int (j : Int))) :=
      run_callT1 (x3 := ds.length) rfl rfl rfl (rp_d (run_cb (run_a (run_var rfl) run_a0) call_lenL)) hn ⟨c3, by omega⟩
    refine ⟨.ref q, rfl, hdraw _ B H ok _ fun y B' H' g t ⟨j, hj, dy⟩ => ?_⟩
    cases dy
    have hjx : j < xs.length := by rw [dpAll_len c2]; exact hj
    refine .inl ⟨q, xs, (j : Int), xs[j], rfl, rfl, (g.bb.trans g.bh).seq c1, atI_nat (List.getElem?_eq_getElem hjx), k _ B' H' g (t p rfl) (List.getElem_mem _)⟩
end Ts
set_option Elab.async false
set_option linter.all false
set_option maxRecDepth 100000
set_option maxHeartbeats 2000000
namespace Ts
open PySem PySem.Spec PyProof.Rows L2
local macro_rules | `(tactic| walk_at "go") => `(tactic| simp only [cxK, cxK2, List.map_cons, List.map_nil, List.length_cons, List.length_nil, List.replicate, List.cons_append, List.nil_append, List.append_nil, Pk.ent, Nat.reduceAdd, Nat.reduceSub])
local macro_rules | `(tactic| walk_at "rfl") => `(tactic| with_unfolding_all exact rfl)
local macro_rules | `(tactic| walk_at "op") => `(tactic| with_reducible first
  | exact opd_plusI | exact opd_sub | exact opd_mod (by decide) | exact opb_eqI | exact opb_neI | exact opb_eqS | exact opb_neS | exact opb_eqB | exact opb_neB
  | exact opb_leI | exact opb_gtI | exact opb_geI | exact opb_ltI | exact opb_ltS | exact opb_isN | exact opb_notN | exact opb_inSgF | exact opb_inSLF | exact opb_inSTF | exact opb_inSLT | exact opb_inSTT | exact opb_inS2F | exact opb_inS2T
  | (apply opd_ixT; try walk_at "ix") | (apply opd_ixL; try walk_at "ix") | (apply opd_ixS; rotate_left; try walk_at "ix"; rotate_right) | apply opd_plusT | apply opd_mul | apply opd_div | apply opd_pow)
local macro_rules | `(tactic| walk_at "opD") => `(tactic| with_reducible first
  | walk_at "op" | (apply OpB.toD; walk_at "op"))
local macro_rules | `(tactic| walk_at "call") => `(tactic| with_reducible first
  | apply run_call1 | apply run_call2 | apply run_call3 | apply run_call4 | apply run_call5)
local macro_rules | `(tactic| walk_at "kit") => `(tactic| with_unfolding_all first | exact kit_ii | exact kit_ib | exact kit_ss | exact kit_st | exact kit_ts | exact kit_tt | exact kit_it | exact kit_ns)
local macro_rules | `(tactic| walk_at "ix") => `(tactic| first | exact atI_zero | exact atI_one | assumption | (with_unfolding_all exact rfl))
local macro_rules | `(tactic| walk_at "e") => `(tactic| with_reducible first
  | exact run_int | exact run_str | exact run_bl | exact run_non
  | (apply run_var; walk_at "rfl") | (apply run_wld; walk_at "rfl")
  | exact run_a0 | apply run_a
  | apply run_op | apply run_isi | apply run_chain | apply run_not | apply run_neg
  | apply run_tupF | apply run_tail | apply run_slT | apply run_slS | exact runo_none | apply runo_some
  | apply run_cb | exact call_lenT | exact call_lenL | apply call_lenS | exact call_max
  | (apply rp_w; walk_at "rfl") | apply rp_d
  | walk_at "call" | (apply RunV.toD; walk_at "call") | (apply RunV.toE; walk_at "call")
  | apply test_of | apply test_B | apply test_not
  | exact trivial
  | (apply run_dget1I; apply run_tab; walk_at "rfl") | (apply run_dgetI; apply run_tab; walk_at "rfl") | (apply run_dgetI; apply run_varD; walk_at "rfl")
  | walk_at "kit"
  | (show _ = some _; assumption)
  | walk_at "opD")
local macro_rules | `(tactic| walk_at "es") => `(tactic| repeat' (first | walk_at "e"))
local macro_rules | `(tactic| walk_at "k") => `(tactic| with_reducible first
  | apply test_orF | apply test_andT | apply test_notT | apply test_notF
  | apply run_andT | apply run_orF)
local macro_rules | `(tactic| walk_at "kl") => `(tactic| with_reducible first | (apply RunT.is; apply test_of) | (apply RunT.is; apply test_B) | apply RunE.is)
local macro_rules | `(tactic| walk_at "side") => `(tactic| first | assumption | (apply decide_eq_false; assumption) | (apply decide_eq_true; assumption) | (with_unfolding_all exact rfl) | (simp; done) | (apply congrArg PyData.bool; assumption) | (simp [*]; done))
local macro_rules | `(tactic| walk_at "ks") => `(tactic| ((repeat' (first | walk_at "k")); (all_goals (try walk_at "kl")); (repeat' (first | walk_at "e")); (all_goals (try walk_at "side"))))
local macro_rules | `(tactic| walk_at "le") => `(tactic| repeat' (first | exact Le.nil | apply Le.keep | apply Le.drop))

section
variable {K : PySem.W.Frag} {F : Fx} {r r1 r2 : PEnv} {te ta tb ti t3 th : TE} {tt : TT} {n n1 n2 : Nat} {E : Pst} {ds : List PyData} {sc : List Int} {ls ls' : List (List PyData)} {wi : TI}
theorem rd_draw {l : Nat} (hF : F.m = sc.length) (hs : r[0]? = some (some (.d (scD sc)))) (hw : r[1]? = some (some (.twn n))) (h3 : RunE K F t3 r (.int (l : Int))) (h1 : 1 ≤ l) (h2 : l ≤ 100000) (hn : n + 1 ≤ 1000000) :
    RunD K F (tCall (SpDraw K sc) [] E0 (tCons (tVar 0) (tCons (tVar 1) (tCons t3 tNil)))) r (n + 1) (IntP fun z => 0 ≤ z ∧ z < (l : Int)) :=
  (run_callT1 (x3 := l) hF hs hw (rp_d h3) hn ⟨h1, h2⟩).imp fun B v ⟨k, hk, dk⟩ => ⟨_, ⟨(k : Int), rfl, by omega, by omega⟩, dk⟩
/-- draw(..) == 0 -/
theorem rdt_draw0 {l : Nat} (hF : F.m = sc.length) (hs : r[0]? = some (some (.d (scD sc)))) (hw : r[1]? = some (some (.twn n))) (hw2 : (tk (n + 1) r)[1]? = some (some (.twn (n + 1)))) (h3 : RunE K F t3 r (.int (l : Int))) (h1 : 1 ≤ l) (h2 : l ≤ 100000) (hn : n + 1 ≤ 1000000) :
    RunDT K F (tTest (tOp (rEqA K) (tCall (SpDraw K sc) [] E0 (tCons (tVar 0) (tCons (tVar 1) (tCons t3 tNil)))) (tC (.int 0)))) r (n + 1) (fun _ => True) :=
  rdt_of (rd_op (rd_draw hF hs hw h3 h1 h2 hn) (rd_int run_int hw2 (q := fun z => z = 0) rfl) fun a b ⟨z, e1, _⟩ ⟨z2, e2, _⟩ => by
    subst e1 e2
    exact ⟨_, OpB.toD opb_eqI, _, rfl, trivial⟩)
theorem RunIX.imp {St : (Hp → Hp → Prop) → Prop} {pl pl' : List PyData → Prop} (h : RunIX K F St wi r n pl) (z : ∀ ds, pl ds → pl' ds) : RunIX K F St wi r n pl' := fun s B H ok R k => h s B H ok R fun J G B' H' ds g t pd => k J G B' H' ds g t (z ds pd)
theorem rx_world {y : PyData} (h : RunX K F ta r n (fun B v => ∃ l ∈ ls, ∃ b, v = .ref b ∧ PlainT K B b l)) (h2 : RunE K F tb (tk n r) y) : RunX K F (tTupF (tCons ta (tCons tb tNil))) r n (fun B v => ∃ l ∈ ls, Dp K B v (.tuple [.tuple l, y]) ∧ PlainW K B v (.tuple [.tuple l, y])) := fun s B H ok Q k =>
  h s B H ok _ fun v B1 H1 g1 t1 ⟨l, hl, b, e, hb⟩ => h2 s B1 H1 (ok.growT g1 t1) _ fun u B2 H2 g2 du => by
    subst e
    refine ⟨line_of (by simp), fun p o ho hd hp => ?_⟩
    have g3 := Grow.lay (o := .frz o (.tup [.ref b, u])) g2.bh hp
    have hb3 := (hb.mono g2.bb).mono g3.bb
    have du3 := dp_mono g3.bb _ _ du
    have hsq : SqT K (upd B2 p (.frz o (.tup [.ref b, u]))) p [.ref b, u] := .inl (.inr ⟨o, upd_same⟩)
    exact k _ _ _ (g1.trans (g2.trans g3).toT) ((t1.grow g2).grow g3) ⟨l, hl, .tup hsq (.cons (plain_dp hb3) (.cons du3 .nil)), p, b, [u], l, [y], rfl, rfl, hsq, hb3⟩
end
/-! ### drawn worlds -/
def ROWS : List (List Con) := [[⟨"List", 1⟩, ⟨"Num", 0⟩, ⟨"Pair", 2⟩], [⟨"List", 1⟩, ⟨"Num", 0⟩], [⟨"Num", 0⟩, ⟨"Pair", 2⟩], [⟨"List", 1⟩, ⟨"Num", 0⟩, ⟨"Unit", 0⟩], [⟨"Num", 0⟩], [⟨"Box", 1⟩, ⟨"List", 1⟩, ⟨"Num", 0⟩],
  [⟨"List", 1⟩, ⟨"Num", 0⟩, ⟨"Pair", 2⟩, ⟨"Unit", 0⟩], [⟨"List", 1⟩, ⟨"Num", 0⟩, ⟨"Pair", 2⟩]]
abbrev rowsD : List (List PyData) := ROWS.map fun l => l.map Con.D
def names3 : List Str := ["count", "show", "fresh"]
structure TrInv (i : Nat) (ts : List Trt) : Prop where
  names : ts.map Trt.n = names3.take i
  form : ∀ t ∈ ts, t.f ∈ [("tell" : Str), ("make" : Str)]
  bl : ∀ (j : Nat) t, ts[j]? = some t → t.b.Sublist (names3.take j)
structure WOk (w : Wd) : Prop where
  cs : w.cs ∈ ROWS
  ts : ∃ k, 1 ≤ k ∧ k ≤ 3 ∧ TrInv k w.ts
theorem names2 : (names3.take 2).Pairwise fun x y => x.cps.toList < y.cps.toList := by
  show [("count" : Str), "show"].Pairwise _
  exact .cons (fun y hy => by
    have : y = "show" := by simpa using hy
    subst this
    decide +kernel) (.cons (fun y hy => by cases hy) .nil)
theorem sub_asc {zs : List Str} {i : Nat} (h : zs.Sublist (names3.take i)) (hi : i ≤ 2) : zs.Pairwise fun x y => x.cps.toList < y.cps.toList :=
  (names2.sublist (List.take_sublist_take_left (l := names3) hi)).sublist h
theorem sort_names {zs : List Str} {i : Nat} (h : zs.Sublist (names3.take i)) (hi : i ≤ 2) : (zs.map PyData.str).mergeSort (PySem.W.dataLe false id) = zs.map PyData.str := by
  refine List.mergeSort_of_pairwise ?_
  rw [List.pairwise_map]
  refine (sub_asc h hi).imp fun {x y} hlt => ?_
  show PySem.W.dataLe false id (PyData.str x) (PyData.str y) = true
  have := congrFun (congrFun (PySem.W.dataLe_str (fun z : Str => z)) x) y
  exact this.trans (decide_eq_true (List.le_of_lt hlt))
variable {P : Program} {w : World} {K : PySem.W.Frag} {mg : Str → Option Value} {base : Heap}
abbrev SpWorld (K : PySem.W.Frag) (sc : List Int) : Sp := spT0 K sc 20 True (fun B v => ∃ w : Wd, WOk w ∧ Dp K B v w.D ∧ PlainW K B v w.D)
theorem ok__law_world (sc : List Int) (hsc : sc.length ≤ 1000) (T : Tb K mg) : FnOk P w K mg base CX0 3 T._law_world.f T._law_world.fd ["_law_script", "_law_town_here"] (SpWorld K sc) :=
  have G__law_draw := ok__law_draw (P := P) (w := w) (base := base) sc hsc T
  have G__law_pick := ok__law_pick (P := P) (w := w) (base := base) sc hsc T
  fnT0 T._law_world.F sc__law_world fun cdv A outer s H E hr => ⟨_, (pss_cons (ps_set (i := 2) sc__law_world.nd rfl (.inl rfl) (pe_lst (pa_cons (pe_tupF (pa_cons (pe_tupF (pa_cons pe_str (pa_cons pe_int pa_nil))) (pa_cons (pe_tupF (pa_cons pe_str (pa_cons pe_int pa_nil))) (pa_cons (pe_tupF (pa_cons pe_str (pa_cons pe_int pa_nil))) pa_nil)))) (pa_cons (pe_tupF (pa_cons (pe_tupF (pa_cons pe_str (pa_cons pe_int pa_nil))) (pa_cons (pe_tupF (pa_cons pe_str (pa_cons pe_int pa_nil))) pa_nil))) (pa_cons (pe_tupF (pa_cons (pe_tupF (pa_cons pe_str (pa_cons pe_int pa_nil))) (pa_cons (pe_tupF (pa_cons pe_str (pa_cons pe_int pa_nil))) pa_nil))) pa_nil))))) (pss_cons (ps_set (i := 2) sc__law_world.nd rfl (.inl rfl) (pe_op (op_plusK K rfl) (vr 2 rfl (.inl rfl)) (pe_lst (pa_cons (pe_tupF (pa_cons (pe_tupF (pa_cons pe_str (pa_cons pe_int pa_nil))) (pa_cons (pe_tupF (pa_cons pe_str (pa_cons pe_int pa_nil))) (pa_cons (pe_tupF (pa_cons pe_str (pa_cons pe_int pa_nil))) pa_nil)))) (pa_cons (pe_tupF (pa_cons (pe_tupF (pa_cons pe_str (pa_cons pe_int pa_nil))) pa_nil)) (pa_cons (pe_tupF (pa_cons (pe_tupF (pa_cons pe_str (pa_cons pe_int pa_nil))) (pa_cons (pe_tupF (pa_cons pe_str (pa_cons pe_int pa_nil))) (pa_cons (pe_tupF (pa_cons pe_str (pa_cons pe_int pa_nil))) pa_nil)))) pa_nil)))))) (pss_cons (ps_set (i := 2) sc__law_world.nd rfl (.inl rfl) (pe_op (op_plusK K rfl) (vr 2 rfl (.inl rfl)) (pe_lst (pa_cons (pe_tupF (pa_cons (pe_tupF (pa_cons pe_str (pa_cons pe_int pa_nil))) (pa_cons (pe_tupF (pa_cons pe_str (pa_cons pe_int pa_nil))) (pa_cons (pe_tupF (pa_cons pe_str (pa_cons pe_int pa_nil))) (pa_cons (pe_tupF (pa_cons pe_str (pa_cons pe_int pa_nil))) pa_nil))))) (pa_cons (pe_tupF (pa_cons (pe_tupF (pa_cons pe_str (pa_cons pe_int pa_nil))) (pa_cons (pe_tupF (pa_cons pe_str (pa_cons pe_int pa_nil))) (pa_cons (pe_tupF (pa_cons pe_str (pa_cons pe_int pa_nil))) pa_nil)))) pa_nil))))) (pss_cons (ps_par (i := 3) (j := 4) rfl sc__law_world.nd rfl rfl (by decide) rfl rfl (pa_cons (pe_lst pa_nil) (pa_cons (pe_lst pa_nil) pa_nil)) (by rfl)) (pss_cons (ps_for PassesOwn.never rfl (pi_any (pe_slice (sl_K K rfl) (pe_lst (pa_cons pe_str (pa_cons pe_str (pa_cons pe_str pa_nil)))) po_none (po_some (pe_op (op_plusK K rfl) pe_int (pe_call G__law_draw (hr.mono (by omega)) rfl T._law_draw.m T._law_draw.F.kp T._law_draw.b .nil pass0 (pa_cons (vr 0 rfl (.inr (.inl rfl))) (pa_cons (vr 1 rfl (.inr (.inl rfl))) (pa_cons pe_int pa_nil)))))))) (pg_name (i := 5) sc__law_world.nd rfl (.inl rfl)) (pss_cons (ps_set (i := 6) sc__law_world.nd rfl (.inl rfl) (pe_callTy call_tupA rfl T.g_tuple (by decide +kernel) (pa_cons (pe_callB (cr_sortD (hu64 hr)) rfl T.g_sorted (by decide +kernel) (pa_cons (pe_lc (own := [("_law_one", 8)]) rfl sc__law_world.nd (pi_any (vr 4 rfl (.inl rfl))) (blkOk_by (own := [("_law_one", 8)]) (N := ["_law_script", "_law_town_here", "_law_rows", "_law_traits_here", "_law_earlier", "_law_name", "_law_below", "_law_form", "_law_one"]) (sc := defScope s__law_world) (by decide +kernel)) (fun _ _ _ _ _ => (pg_name (i := 8) sc__law_world.nd rfl (.inl rfl))) (fun _ _ _ _ _ => (pts_one (pt_cmpR (op_eqK K rfl (hu64 hr)) (pe_call G__law_draw (hr.mono (by omega)) rfl T._law_draw.m T._law_draw.F.kp T._law_draw.b .nil pass0 (pa_cons (vr 0 rfl (.inr (.inl rfl))) (pa_cons (vr 1 rfl (.inr (.inl rfl))) (pa_cons pe_int pa_nil)))) pe_int (nomark _)))) (fun _ _ _ _ _ => (vr 8 rfl (.inl rfl)))) pa_nil)) pa_nil))) (pss_cons (ps_set (i := 7) sc__law_world.nd rfl (.inl rfl) (pe_ifExp (PW.pt (pw_or (pt_cmpR (op_eqK K rfl (hu64 hr)) (vr 5 rfl (.inl rfl)) pe_str (nomark _)) (pw_or1 (pt_cmpR (op_eqK K rfl (hu64 hr)) (pe_call G__law_draw (hr.mono (by omega)) rfl T._law_draw.m T._law_draw.F.kp T._law_draw.b .nil pass0 (pa_cons (vr 0 rfl (.inr (.inl rfl))) (pa_cons (vr 1 rfl (.inr (.inl rfl))) (pa_cons pe_int pa_nil)))) pe_int (nomark _))))) pe_str pe_str)) (pss_cons (ps_expr (pe_bm PySem.F.plainAttrs_list PySem.F.slot_list_append PySem.F.type_list_append mt_append (vr 3 rfl (.inl rfl)) (pa_cons (pe_tupF (pa_cons (vr 5 rfl (.inl rfl)) (pa_cons (vr 7 rfl (.inl rfl)) (pa_cons (vr 6 rfl (.inl rfl)) pa_nil)))) pa_nil))) (pss_one (ps_expr (pe_bm PySem.F.plainAttrs_list PySem.F.slot_list_append PySem.F.type_list_append mt_append (vr 4 rfl (.inl rfl)) (pa_cons (vr 5 rfl (.inl rfl)) pa_nil)))))))) (pss_one (ps_ret (pe_tupF (pa_cons (pe_call G__law_pick (hr.mono (by omega)) rfl T._law_pick.m T._law_pick.F.kp T._law_pick.b .nil pass0 (pa_cons (vr 0 rfl (.inr (.inl rfl))) (pa_cons (vr 1 rfl (.inr (.inl rfl))) (pa_cons (vr 2 rfl (.inl rfl)) pa_nil)))) (pa_cons (pe_callTy call_tupA rfl T.g_tuple (by decide +kernel) (pa_cons (vr 3 rfl (.inl rfl)) pa_nil)) pa_nil)))))))))), fun _ F n hF hn => by
    walk_at "go"
    refine run_seq (run_asgLw (run_lstW (raw_cons (run_a (run_tupF (run_a run_str (run_a run_int run_a0)) (by simp)) (run_a (run_tupF (run_a run_str (run_a run_int run_a0)) (by simp)) (run_a (run_tupF (run_a run_str (run_a run_int run_a0)) (by simp)) run_a0))) (by simp) (raw_cons (run_a (run_tupF (run_a run_str (run_a run_int run_a0)) (by simp)) (run_a (run_tupF (run_a run_str (run_a run_int run_a0)) (by simp)) run_a0)) (by simp) (raw_cons (run_a (run_tupF (run_a run_str (run_a run_int run_a0)) (by simp)) (run_a (run_tupF (run_a run_str (run_a run_int run_a0)) (by simp)) run_a0)) (by simp) raw_nil))) (by simp)) ?_)
    refine run_seq (run_asgLw (run_catW rfl (run_lstW (raw_cons (run_a (run_tupF (run_a run_str (run_a run_int run_a0)) (by simp)) (run_a (run_tupF (run_a run_str (run_a run_int run_a0)) (by simp)) (run_a (run_tupF (run_a run_str (run_a run_int run_a0)) (by simp)) run_a0))) (by simp) (raw_cons (run_a (run_tupF (run_a run_str (run_a run_int run_a0)) (by simp)) run_a0) (by simp) (raw_cons (run_a (run_tupF (run_a run_str (run_a run_int run_a0)) (by simp)) (run_a (run_tupF (run_a run_str (run_a run_int run_a0)) (by simp)) (run_a (run_tupF (run_a run_str (run_a run_int run_a0)) (by simp)) run_a0))) (by simp) raw_nil))) (by simp)) (by simp)) ?_)
    refine run_seq (run_asgLw (run_catW rfl (run_lstW (raw_cons (run_a (run_tupF (run_a run_str (run_a run_int run_a0)) (by simp)) (run_a (run_tupF (run_a run_str (run_a run_int run_a0)) (by simp)) (run_a (run_tupF (run_a run_str (run_a run_int run_a0)) (by simp)) (run_a (run_tupF (run_a run_str (run_a run_int run_a0)) (by simp)) run_a0)))) (by simp) (raw_cons (run_a (run_tupF (run_a run_str (run_a run_int run_a0)) (by simp)) (run_a (run_tupF (run_a run_str (run_a run_int run_a0)) (by simp)) (run_a (run_tupF (run_a run_str (run_a run_int run_a0)) (by simp)) run_a0))) (by simp) raw_nil)) (by simp)) (by simp)) ?_)
    change RunS K F _ [some (.d (scD sc)), some (.twn n), some (.lw rowsD), none, none, none, none, none, none] _
    refine run_seq (run_par2L (by decide) (run_lst run_a0 (by simp)) (run_lst run_a0 (by simp)) ?_)
    change RunS K F _ [some (.d (scD sc)), some (.twn n), some (.lw rowsD), some (.own []), some (.own []), none, none, none, none] _
    refine run_seq (run_forI (vs := [5]) (n := n + 1) PyData.str (fun l => ∃ k, 1 ≤ k ∧ k ≤ 3 ∧ l = names3.take k) (fun l i r0 => ∃ ts, TrInv i ts ∧ r0 = [some (.d (scD sc)), some (.twn (n + 1 + 3 * i)), some (.lw rowsD), some (.own (ts.map Trt.D)), some (.own ((names3.take i).map .str)), none, none, none, none])
      (rix_lst (p := fun d => ∃ z : Int, (1 ≤ z ∧ z ≤ 3) ∧ d = .list (cutD [.str "count", .str "show", .str "fresh"] none (some z))) (rd_slHi (RunL.toE (run_lst (run_a run_str (run_a run_str (run_a run_str run_a0))) (by simp))) (rd_int2 (fun i j => i + j) (rd_int run_int rfl (q := fun z => z = 1) rfl) (rd_draw (l := 3) hF rfl rfl (RunE.is run_int rfl) (by decide) (by decide) (by omega)) fun i j h1 ⟨h2, h3⟩ => ⟨opd_plusI, by omega, by omega⟩)) ?_) ?_ ?_ ?_)
    · rintro d ⟨z, ⟨h1, h2⟩, rfl⟩
      refine ⟨_, rfl, ?_⟩
      have hz : z = 1 ∨ z = 2 ∨ z = 3 := by omega
      rcases hz with rfl | rfl | rfl
      · exact ⟨names3.take 1, rfl, 1, by decide, by decide, rfl⟩
      · exact ⟨names3.take 2, rfl, 2, by decide, by decide, rfl⟩
      · exact ⟨names3.take 3, rfl, 3, by decide, by decide, rfl⟩
    · rintro l ⟨k, h1, h2, rfl⟩
      refine ⟨_, ⟨[], ⟨rfl, fun t h => (by cases h), fun j t h => (by simp at h)⟩, rfl⟩, ?_⟩
      walk_at "le"
    · rintro l ⟨k, h1, h2, rfl⟩ i x r0 hx ⟨ts, hI, rfl⟩
      have hik : i < k := by
        have := (List.getElem?_eq_some_iff.mp hx).1
        rw [List.length_take] at this
        omega
      have hx3 : names3[i]? = some x := by
        rw [List.getElem?_take] at hx
        rw [if_pos hik] at hx
        exact hx
      have htk : names3.take (i + 1) = names3.take i ++ [x] := by
        rw [List.take_add_one, hx3]
        rfl
      have hil : (names3.take i).length = i := by
        rw [List.length_take]
        show min i 3 = i
        omega
      refine ⟨_, rung_name (by decide), ?_⟩
      change RunS K F _ [some (.d (scD sc)), some (.twn (n + 1 + 3 * i)), some (.lw rowsD), some (.own (ts.map Trt.D)), some (.own ((names3.take i).map .str)), some (.d (.str x)), none, none, none] _
      have hfr : x = "fresh" → i = 2 := fun e => by
        subst e
        have h3 : i < 3 := by omega
        have : i = 0 ∨ i = 1 ∨ i = 2 := by omega
        rcases this with rfl | rfl | rfl
        · exact absurd (Option.some.inj hx3) (by decide)
        · exact absurd (Option.some.inj hx3) (by decide)
        · rfl
      refine run_seq (run_asgX (n := n + 1 + 3 * i + 2) (p := fun d => ∃ zs : List Str, zs.Sublist (names3.take i) ∧ d = .tuple (zs.map .str)) (rd_cb (pl := fun l => ∃ zs : List Str, zs.Sublist (names3.take i) ∧ l = [.list (zs.map .str)]) (RunDA.imp (rda_cons (pa := fun d => ∃ zs : List Str, zs.Sublist (names3.take i) ∧ d = .list (zs.map .str)) (rd_cb (pl := fun l => ∃ zs : List Str, zs.Sublist (names3.take i) ∧ l = [.list (zs.map .str)]) (RunDA.imp (rda_cons (RunD.imp (rd_lc (vs := [8]) PyData.str (fun l => l = names3.take i) PyData.str (fun l j zs => zs.Sublist (l.take j)) (fun j => n + 1 + 3 * i + j) (n + 1 + 3 * i + 2) ((rix_own (K := K) rfl rfl).imp fun ds e => ⟨_, e, rfl⟩) ?_ ?_ ?_ ?_ ?_) (p' := fun d => ∃ zs : List Str, zs.Sublist (names3.take i) ∧ d = .list (zs.map .str)) ?_) (rda_nil rfl)) ?_) ?_) (rda_nil rfl)) ?_) ?_) ?_)
      · rintro l rfl
        exact List.Sublist.refl _
      · exact Nat.le_refl _
      · rintro l rfl
        show n + 1 + 3 * i + (names3.take i).length ≤ _
        omega
      · rintro l rfl j zs hz
        have := hz.length_le
        rw [List.length_take] at this
        omega
      · rintro l rfl j y zs hy hz
        have hjl : j < (names3.take i).length := (List.getElem?_eq_some_iff.mp hy).1
        have hstep : ((names3.take i).take (j + 1)) = (names3.take i).take j ++ [y] := by
          rw [List.take_add_one, hy]
          rfl
        refine ⟨_, n + 1 + 3 * i + j + 1, fun _ => True, rung_name (by decide), rdt_draw0 (l := 3) hF rfl rfl rfl (RunE.is run_int rfl) (by decide) (by decide) (by omega), fun _ => ⟨Nat.le_refl _, ?_⟩, fun _ => ?_⟩
        · rw [hstep]
          exact hz.trans (List.sublist_append_left _ _)
        · refine RunX.imp (rx_pure (i := 1) (run_var (d := .str y) rfl) rfl) fun B v dv => ⟨y, dv, ?_⟩
          rw [hstep]
          exact hz.append (List.Sublist.refl _)
      · rintro d ⟨l, zs, rfl, hz, rfl⟩
        rw [List.take_length] at hz
        exact ⟨zs, hz, rfl⟩
      · rintro d ⟨a, b, rfl, ⟨zs, hz, rfl⟩, rfl⟩
        exact ⟨zs, hz, rfl⟩
      · rintro d ⟨zs, hz, rfl⟩
        refine ⟨_, call_sortD2 (PySem.W.AllAlike.of fun a b => rfl) (PySem.W.Sortable.others fun b => ⟨(fun z => nomatch z), (fun xs z => nomatch z)⟩) (fun d hd => ?_), zs, hz, ?_⟩
        · obtain ⟨y, _, rfl⟩ := List.mem_map.mp hd
          simp [PyData.depth]
        · show PyData.list ((zs.map PyData.str).mergeSort (PySem.W.dataLe false id)) = _
          rw [sort_names hz (by omega)]
      · rintro d ⟨a, b, rfl, ⟨zs, hz, rfl⟩, rfl⟩
        exact ⟨zs, hz, rfl⟩
      · rintro d ⟨zs, hz, rfl⟩
        exact ⟨_, call_tupL, zs, hz, rfl⟩
      rintro d ⟨zs, hz, rfl⟩
      change RunS K F _ [some (.d (scD sc)), some (.twn (n + 1 + 3 * i + 2)), some (.lw rowsD), some (.own (ts.map Trt.D)), some (.own ((names3.take i).map .str)), some (.d (.str x)), some (.d (.tuple (zs.map .str))), none, none] _
      refine run_seq (run_asgX (n := n + 1 + 3 * i + 3) (p := fun d => ∃ f : Str, f ∈ [("tell" : Str), ("make" : Str)] ∧ d = .str f) (rd_if (q := fun _ => True) (n1 := n + 1 + 3 * i + 3) (rdt_or (n1 := n + 1 + 3 * i + 2) (rdt_pure (test_op (run_var rfl) run_str opb_eqS) rfl) (fun _ => rdt_draw0 (l := 6) hF rfl rfl rfl (RunE.is run_int rfl) (by decide) (by decide) (by omega)) (by omega)) (fun _ => (rd_pure run_str rfl).imp fun d e => ⟨_, by decide, e⟩) (fun _ => (rd_pure run_str rfl).imp fun d e => ⟨_, by decide, e⟩)) ?_)
      rintro d ⟨f, hf, rfl⟩
      change RunS K F _ [some (.d (scD sc)), some (.twn (n + 1 + 3 * i + 3)), some (.lw rowsD), some (.own (ts.map Trt.D)), some (.own ((names3.take i).map .str)), some (.d (.str x)), some (.d (.tuple (zs.map .str))), some (.d (.str f)), none] _
      have htl : ts.length = i := by rw [← List.length_map (f := Trt.n), hI.names, hil]
      refine run_seq (run_append (i := 3) (ds := ts.map Trt.D) (d := (Trt.mk x f zs).D) rfl (by rw [List.length_map]; omega) (run_tupF (run_a (run_var rfl) (run_a (run_var rfl) (run_a (run_var rfl) run_a0))) (by simp)) ?_)
      refine run_append (i := 4) (ds := (names3.take i).map .str) (d := .str x) rfl (by rw [List.length_map, hil]; omega) (run_var rfl) ?_
      refine ⟨_, ⟨ts ++ [⟨x, f, zs⟩], ⟨?_, fun t ht => ?_, fun j t ht => ?_⟩, rfl⟩, ?_⟩
      · rw [List.map_append, hI.names, htk]
        rfl
      · rcases List.mem_append.mp ht with q | q
        · exact hI.form t q
        · have : t = ⟨x, f, zs⟩ := by simpa using q
          subst this
          exact hf
      · by_cases hj : j < ts.length
        · rw [List.getElem?_append_left hj] at ht
          exact hI.bl j t ht
        · rw [List.getElem?_append_right (by omega)] at ht
          have hj0 : j - ts.length = 0 := by
            have := (List.getElem?_eq_some_iff.mp ht).1
            simp at this
            omega
          rw [hj0] at ht
          have e : (⟨x, f, zs⟩ : Trt) = t := by simpa using ht
          subst e
          have : j = i := by omega
          subst this
          exact hz
      · rw [List.map_append, htk, List.map_append]
        have : n + 1 + 3 * (i + 1) = n + 1 + 3 * i + 3 := by omega
        rw [this]
        walk_at "le"
    · rintro l r0 ⟨k, h1, h2, rfl⟩ ⟨ts, hI, rfl⟩
      refine run_freeze 3 rfl ?_
      have hl : (names3.take k).length = k := by
        rw [List.length_take]
        show min k 3 = k
        omega
      rw [hl] at hI ⊢
      refine run_retX (rx_world (run_pickL (i := 2) hF rfl rfl (by omega) rfl (by decide) (by decide)) (run_tupL (run_a (run_var rfl) run_a0))) fun B v ⟨l, hl, q1, q2⟩ => ⟨⟨_, rfl, by omega⟩, ?_⟩
      obtain ⟨cs, hcs, rfl⟩ := List.mem_map.mp hl
      exact ⟨⟨cs, ts⟩, ⟨hcs, k, h1, h2, hI⟩, q1, q2⟩⟩
end Ts
set_option Elab.async false
set_option linter.all false
set_option maxRecDepth 100000
set_option maxHeartbeats 2000000
namespace Ts
open PySem PySem.Spec PyProof.Rows L2
local macro_rules | `(tactic| walk_at "go") => `(tactic| simp only [cxK, cxK2, List.map_cons, List.map_nil, List.length_cons, List.length_nil, List.replicate, List.cons_append, List.nil_append, List.append_nil, Pk.ent, Nat.reduceAdd, Nat.reduceSub])
local macro_rules | `(tactic| walk_at "rfl") => `(tactic| with_unfolding_all exact rfl)
local macro_rules | `(tactic| walk_at "op") => `(tactic| with_reducible first
  | exact opd_plusI | exact opd_sub | exact opd_mod (by decide) | exact opb_eqI | exact opb_neI | exact opb_eqS | exact opb_neS | exact opb_eqB | exact opb_neB
  | exact opb_leI | exact opb_gtI | exact opb_geI | exact opb_ltI | exact opb_ltS | exact opb_isN | exact opb_notN | exact opb_inSgF | exact opb_inSLF | exact opb_inSTF | exact opb_inSLT | exact opb_inSTT | exact opb_inS2F | exact opb_inS2T
  | (apply opd_ixT; try walk_at "ix") | (apply opd_ixL; try walk_at "ix") | (apply opd_ixS; rotate_left; try walk_at "ix"; rotate_right) | apply opd_plusT | apply opd_mul | apply opd_div | apply opd_pow)
local macro_rules | `(tactic| walk_at "opD") => `(tactic| with_reducible first
  | walk_at "op" | (apply OpB.toD; walk_at "op"))
local macro_rules | `(tactic| walk_at "call") => `(tactic| with_reducible first
  | apply run_call1 | apply run_call2 | apply run_call3 | apply run_call4 | apply run_call5)
local macro_rules | `(tactic| walk_at "kit") => `(tactic| with_unfolding_all first | exact kit_ii | exact kit_ib | exact kit_ss | exact kit_st | exact kit_ts | exact kit_tt | exact kit_it | exact kit_ns)
local macro_rules | `(tactic| walk_at "ix") => `(tactic| first | exact atI_zero | exact atI_one | assumption | (with_unfolding_all exact rfl))
local macro_rules | `(tactic| walk_at "e") => `(tactic| with_reducible first
  | exact run_int | exact run_str | exact run_bl | exact run_non
  | (apply run_var; walk_at "rfl") | (apply run_wld; walk_at "rfl")
  | exact run_a0 | apply run_a
  | apply run_op | apply run_isi | apply run_chain | apply run_not | apply run_neg
  | apply run_tupF | apply run_tail | apply run_slT | apply run_slS | exact runo_none | apply runo_some
  | apply run_cb | exact call_lenT | exact call_lenL | apply call_lenS | exact call_max
  | (apply rp_w; walk_at "rfl") | apply rp_d
  | walk_at "call" | (apply RunV.toD; walk_at "call") | (apply RunV.toE; walk_at "call")
  | apply test_of | apply test_B | apply test_not
  | exact trivial
  | (apply run_dget1I; apply run_tab; walk_at "rfl") | (apply run_dgetI; apply run_tab; walk_at "rfl") | (apply run_dgetI; apply run_varD; walk_at "rfl")
  | walk_at "kit"
  | (show _ = some _; assumption)
  | walk_at "opD")
local macro_rules | `(tactic| walk_at "es") => `(tactic| repeat' (first | walk_at "e"))
local macro_rules | `(tactic| walk_at "k") => `(tactic| with_reducible first
  | apply test_orF | apply test_andT | apply test_notT | apply test_notF
  | apply run_andT | apply run_orF)
local macro_rules | `(tactic| walk_at "kl") => `(tactic| with_reducible first | (apply RunT.is; apply test_of) | (apply RunT.is; apply test_B) | apply RunE.is)
local macro_rules | `(tactic| walk_at "side") => `(tactic| first | assumption | (apply decide_eq_false; assumption) | (apply decide_eq_true; assumption) | (with_unfolding_all exact rfl) | (simp; done) | (apply congrArg PyData.bool; assumption) | (simp [*]; done))
local macro_rules | `(tactic| walk_at "ks") => `(tactic| ((repeat' (first | walk_at "k")); (all_goals (try walk_at "kl")); (repeat' (first | walk_at "e")); (all_goals (try walk_at "side"))))
local macro_rules | `(tactic| walk_at "le") => `(tactic| repeat' (first | exact Le.nil | apply Le.keep | apply Le.drop))

/-! ### drawn worlds are worlds -/
def ascB (l : List Con) : Bool := (List.range 4).all fun k => match l[k]?, l[k + 1]? with
  | some x, some y => decide (x.n.cps.toList < y.n.cps.toList)
  | _, _ => true
def rowOk (l : List Con) : Bool := decide (1 ≤ l.length) && decide (l.length ≤ 4) && l.all (fun c => decide (c ∈ CONS)) && ascB l && l.any (fun c => decide (c.k = 0)) &&
  l.all (fun c => decide (valV (mergeK [] (l.map fun c => ((.inr c.n : L2.Key), V.int (c.k : Int)))) (.inr c.n) = some (V.int (c.k : Int)))) && l.all (fun c => PyData.strOk c.n) && l.all (fun c => decide (c.k ≤ 2))
theorem rows_ok : ∀ l ∈ ROWS, rowOk l = true := by decide +kernel
theorem names3_ok : ∀ n ∈ names3, smallB n 1 6 = true ∧ n.length ≤ 100 ∧ NmOk n := by decide +kernel
theorem forms_ok : ∀ f ∈ [("tell" : Str), ("make" : Str)], NmOk f := by decide +kernel
theorem names3_fresh : ∀ (i : Nat) n, names3[i]? = some n → n ∉ names3.take i
  | 0, n, h => by simp
  | 1, n, h => by
    have e := Option.some.inj h
    subst e
    decide +kernel
  | 2, n, h => by
    have e := Option.some.inj h
    subst e
    decide +kernel
  | i + 3, n, h => by cases h
theorem TrInv.len {k : Nat} {ts : List Trt} (h : TrInv k ts) (hk : k ≤ 3) : ts.length = k := by
  rw [← List.length_map (f := Trt.n), h.names, List.length_take]
  show min k 3 = k
  omega
theorem TrInv.at_ {k : Nat} {ts : List Trt} (h : TrInv k ts) {i : Nat} {t : Trt} (ht : ts[i]? = some t) : names3[i]? = some t.n := by
  have : (ts.map Trt.n)[i]? = some t.n := by rw [List.getElem?_map, ht]; rfl
  rw [h.names, List.getElem?_take] at this
  split at this
  · exact this
  · cases this
theorem TrInv.take_ {k : Nat} {ts : List Trt} (h : TrInv k ts) (hk : k ≤ 3) {i : Nat} {t : Trt} (ht : ts[i]? = some t) : (ts.take i).map Trt.n = names3.take i := by
  have hi := (List.getElem?_eq_some_iff.mp ht).1
  rw [h.len hk] at hi
  rw [List.map_take, h.names, List.take_take]
  congr 1
  omega
theorem TrInv.ok {k : Nat} {ts : List Trt} (h : TrInv k ts) (h1 : 1 ≤ k) (hk : k ≤ 3) : TrsOk ts where
  n1 := by rw [h.len hk]; exact h1
  n4 := by rw [h.len hk]; omega
  nm := fun t ht => by
    obtain ⟨i, hi⟩ := List.getElem?_of_mem ht
    have := names3_ok t.n (List.mem_of_getElem? (h.at_ hi))
    exact ⟨this.1, this.2.1⟩
  fresh := fun i t ht => by
    rw [h.take_ hk ht]
    exact names3_fresh i t.n (h.at_ ht)
  form := h.form
  bl := fun i t ht => by
    rw [h.take_ hk ht]
    have hs := h.bl i t ht
    refine ⟨?_, fun x hx => hs.subset hx⟩
    have := hs.length_le
    have h3 : (names3.take i).length ≤ 3 := by
      rw [List.length_take]
      show min i 3 ≤ 3
      omega
    omega
  asc := fun t ht k' x y hx hy => by
    obtain ⟨i, hi⟩ := List.getElem?_of_mem ht
    have hil := (List.getElem?_eq_some_iff.mp hi).1
    rw [h.len hk] at hil
    have hp := sub_asc (h.bl i t hi) (by omega)
    obtain ⟨a1, a2⟩ := List.getElem?_eq_some_iff.mp hx
    obtain ⟨b1, b2⟩ := List.getElem?_eq_some_iff.mp hy
    have := List.pairwise_iff_getElem.mp hp k' (k' + 1) a1 b1 (by omega)
    rw [a2, b2] at this
    exact this
  lay := fun t ht => by
    obtain ⟨i, hi⟩ := List.getElem?_of_mem ht
    exact ⟨(names3_ok t.n (List.mem_of_getElem? (h.at_ hi))).2.2, forms_ok _ (h.form t ht)⟩
structure RowF (w : Wd) : Prop where
  c1 : 1 ≤ w.cs.length
  c4 : w.cs.length ≤ 4
  con : ∀ c ∈ w.cs, c ∈ CONS
  asc : ∀ (k : Nat) x y, w.cs[k]? = some x → w.cs[k + 1]? = some y → x.n.cps.toList < y.n.cps.toList
  zero : ∃ c ∈ w.cs, c.k = 0
  tab : ConsOk w
  nm : ∀ c ∈ w.cs, NmOk c.n
  k2 : ∀ c ∈ w.cs, c.k ≤ 2
theorem WOk.rows {w : Wd} (h : WOk w) : RowF w := by
  have := rows_ok _ h.cs
  unfold rowOk at this
  simp only [Bool.and_eq_true] at this
  obtain ⟨⟨⟨⟨⟨⟨⟨a1, a2⟩, a3⟩, a4⟩, a5⟩, a6⟩, a7⟩, a8⟩ := this
  refine ⟨of_decide_eq_true a1, of_decide_eq_true a2, fun c hc => of_decide_eq_true (List.all_eq_true.mp a3 c hc), fun k x y hx hy => ?_, ?_, fun c hc => of_decide_eq_true (List.all_eq_true.mp a6 c hc), fun c hc => List.all_eq_true.mp a7 c hc, fun c hc => of_decide_eq_true (List.all_eq_true.mp a8 c hc)⟩
  · have hk := (List.getElem?_eq_some_iff.mp hx).1
    have h4 := of_decide_eq_true a2
    have := List.all_eq_true.mp a4 k (List.mem_range.mpr (by omega))
    rw [hx, hy] at this
    exact of_decide_eq_true this
  · obtain ⟨c, hc, e⟩ := List.any_eq_true.mp a5
    exact ⟨c, hc, of_decide_eq_true e⟩
theorem WOk.wd {w : Wd} (h : WOk w) : WdOk w := by
  have r := h.rows
  obtain ⟨k, h1, h3, hI⟩ := h.ts
  exact ⟨r.c1, r.c4, r.con, r.asc, r.zero, hI.ok h1 h3, r.tab⟩
theorem WOk.n3 {w : Wd} (h : WOk w) : w.ts.length ≤ 3 := by
  obtain ⟨k, h1, h3, hI⟩ := h.ts
  rw [hI.len h3]
  exact h3
theorem WOk.n1 {w : Wd} (h : WOk w) : 1 ≤ w.ts.length := by
  obtain ⟨k, h1, h3, hI⟩ := h.ts
  rw [hI.len h3]
  exact h1
theorem WOk.form {w : Wd} (h : WOk w) {t : Trt} (ht : t ∈ w.ts) : formOf w t.n = some t.f := by
  obtain ⟨k, h1, h3, hI⟩ := h.ts
  have huniq : ∀ x ∈ w.ts, x.n = t.n → x = t := fun x hx e => by
    obtain ⟨i, hi⟩ := List.getElem?_of_mem hx
    obtain ⟨j, hj⟩ := List.getElem?_of_mem ht
    have a1 := hI.at_ hi
    have a2 := hI.at_ hj
    rw [e] at a1
    have hij : i = j := by
      rcases Nat.lt_trichotomy i j with q | q | q
      · exact absurd (List.mem_iff_getElem?.mpr ⟨i, by rw [List.getElem?_take, if_pos q]; exact a1⟩) (names3_fresh j _ a2)
      · exact q
      · exact absurd (List.mem_iff_getElem?.mpr ⟨j, by rw [List.getElem?_take, if_pos q]; exact a2⟩) (names3_fresh i _ a1)
    subst hij
    rw [hi] at hj
    exact Option.some.inj hj
  unfold formOf
  have hm : t ∈ w.ts.filter fun x => decide (x.n = t.n) := List.mem_filter.mpr ⟨ht, decide_eq_true rfl⟩
  cases hf : w.ts.filter fun x => decide (x.n = t.n) with
  | nil => rw [hf] at hm; cases hm
  | cons x l =>
    have hx : x ∈ w.ts.filter fun x => decide (x.n = t.n) := by rw [hf]; exact List.mem_cons_self
    obtain ⟨q1, q2⟩ := List.mem_filter.mp hx
    rw [huniq x q1 (of_decide_eq_true q2)]
    rfl
variable {P : Program} {w : World} {K : PySem.W.Frag} {mg : Str → Option Value} {base : Heap}
/-! ### sorts -/
def sz (d : Nat) : Nat := if d ≤ 1 then 1 else if d ≤ 2 then 3 else if d ≤ 3 then 5 else 9
def ch (d i : Nat) : Nat := max 1 (d - 1 - i)
def cL : Nat → Nat
  | 0 => 0
  | d + 1 => 1 + 2 * cL d
abbrev SpLSort (K : PySem.W.Frag) (sc : List Int) (d : Nat) : Sp := spT2 K sc (cL d) (.w Wd.D) (.d (fun (k : Nat) => .int (k : Int))) (fun w k => WOk w ∧ 1 ≤ k ∧ k ≤ 4 ∧ k ≤ d) (fun w k B v => ∃ s : Srt, SrtOk w s ∧ s.dep ≤ k ∧ s.size ≤ sz k ∧ Dp K B v s.T)
theorem ok__law_sort (sc : List Int) (hsc : sc.length ≤ 1000) (T : Tb K mg) : ∀ d, FnOk P w K mg base CX0 (d + 2) T._law_sort.f T._law_sort.fd ["_law_script", "_law_town_here", "_law_world_here", "_law_depth"] (SpLSort K sc d)
  | 0 => ⟨fun _ _ _ _ ⟨_, _, _, _, _, _, _, _, _, _, _, _, _, _, _, _, _, _, ⟨_, a, _, b⟩, _⟩ => absurd (Nat.le_trans a b) (by decide), fun _ _ _ _ _ _ _ _ _ _ _ _ _ ⟨_, _, _, _, _, _, _, _, _, _, _, _, _, _, _, _, _, _, ⟨_, a, _, b⟩, _⟩ => absurd (Nat.le_trans a b) (by decide)⟩
  | d + 1 =>
  have G__law_pick := ok__law_pick (P := P) (w := w) (base := base) sc hsc T
  have G__law_sort := ok__law_sort sc hsc T d
  fnT2 T._law_sort.F sc__law_sort fun cdv A outer s H E hr => ⟨_, (pss_cons (ps_setLc (i := 4) (own := [("_law_row", 7)]) rfl sc__law_sort.nd rfl rfl (sw_true rfl rfl rfl (by decide +kernel)) (pi_any (pe_ix (ix_K K rfl) (vr 2 rfl (.inr (.inl rfl))) pe_int (fun _ _ => rfl))) (blkOk_by (own := [("_law_row", 7)]) (N := ["_law_script", "_law_town_here", "_law_world_here", "_law_depth", "_law_plain_ones", "_law_name", "_law_parts", "_law_row", "_law_k"]) (sc := defScope s__law_sort) (by decide +kernel)) (fun _ _ _ _ _ => (pg_name (i := 7) sc__law_sort.nd rfl (.inl rfl))) (fun _ _ _ _ _ => (pts_one (pt_cmpR (op_eqK K rfl (hu64 hr)) (pe_ix (ix_K K rfl) (vr 7 rfl (.inl rfl)) pe_int (fun _ _ => rfl)) pe_int (nomark _)))) (fun _ _ _ _ _ => (vr 7 rfl (.inl rfl)))) (pss_cons (ps_asg (pe_call G__law_pick (hr.mono (by omega)) rfl T._law_pick.m T._law_pick.F.kp T._law_pick.b .nil pass0 (pa_cons (vr 0 rfl (.inr (.inl rfl))) (pa_cons (vr 1 rfl (.inr (.inl rfl))) (pa_cons (pe_ifExp (pt_cmpR op_gtI (vr 3 rfl (.inr (.inl rfl))) pe_int (nomark _)) (pe_callTy call_listA rfl T.g_list (by decide +kernel) (pa_cons (pe_ix (ix_K K rfl) (vr 2 rfl (.inr (.inl rfl))) pe_int (fun _ _ => rfl)) pa_nil)) (vr 4 rfl (.inl rfl))) pa_nil)))) (pg_tupK K rfl (n := 2) rfl (pgs_cons (pg_name (i := 5) sc__law_sort.nd rfl (.inl rfl)) (pgs_cons (pg_name (i := 6) sc__law_sort.nd rfl (.inl rfl)) pgs_nil)))) (pss_one (ps_ret (pe_op (op_plusK K rfl) (pe_tupF (pa_cons (vr 5 rfl (.inl rfl)) pa_nil)) (pe_callTy call_tupA rfl T.g_tuple (by decide +kernel) (pa_cons (pe_lc (own := [("_law_k", 8)]) rfl sc__law_sort.nd (pi_range1 rfl T.g_range (pa_cons (vr 6 rfl (.inl rfl)) pa_nil)) (blkOk_by (own := [("_law_k", 8)]) (N := ["_law_script", "_law_town_here", "_law_world_here", "_law_depth", "_law_plain_ones", "_law_name", "_law_parts", "_law_row", "_law_k"]) (sc := defScope s__law_sort) (by decide +kernel)) (fun _ _ _ _ _ => (pg_name (i := 8) sc__law_sort.nd rfl (.inl rfl))) (fun _ _ _ _ _ => pts_nil) (fun _ _ _ _ _ => (pe_call G__law_sort (hr.mono (by omega)) rfl T._law_sort.m T._law_sort.F.kp T._law_sort.b .nil pass0 (pa_cons (vr 0 rfl (.inr (.inl rfl))) (pa_cons (vr 1 rfl (.inr (.inl rfl))) (pa_cons (vr 2 rfl (.inr (.inl rfl))) (pa_cons (pe_callB (call_maxI rfl) rfl T.g_max (by decide +kernel) (pa_cons pe_int (pa_cons (pe_op op_subI (pe_op op_subI (vr 3 rfl (.inr (.inl rfl))) pe_int) (vr 8 rfl (.inl rfl))) pa_nil))) pa_nil))))))) pa_nil))))))), fun w k ⟨hw, hk1, hk4, hkd⟩ F n hF hn => by
    walk_at "go"
    have hrow := hw.rows
    have hc4 := hrow.c4
    refine run_asgq (RunL.toE (run_lc (vs := [7]) w.cs Con.D (fun c => decide ((c.k : Int) = 0)) Con.D (runi_tup (run_op (run_wld rfl) run_int (opd_ixT rfl))) (by omega) fun j c hc => ⟨_, rung_name (by decide), test_op (run_op (run_var rfl) run_int (opd_ixT rfl)) run_int opb_eqI, fun _ => run_var rfl⟩)) ?_
    obtain ⟨l, hl1, hl2, hl3, hl4⟩ : ∃ l : List Con, (∀ c ∈ l, c ∈ w.cs ∧ (k = 1 → c.k = 0)) ∧ 0 < l.length ∧ l.length ≤ 4 ∧ RunE K F (tIf (tTest (tOp rGtI (tVar 3) (tC (.int 1)))) (tCB (rListA K) (tCons (tOp (rIx K) (tVar 2) (tC (.int 0))) tNil)) (tVar 4)) [some (.d (scD sc)), some (.twn n), some (.wld w.D), some (.d (.int (k : Int))), some (.d (.list ((w.cs.filter fun c => decide ((c.k : Int) = 0)).map Con.D))), none, none, none, none] (.list (l.map Con.D)) := by
      by_cases hk : k = 1
      · refine ⟨w.cs.filter fun c => decide ((c.k : Int) = 0), fun c hc => ?_, ?_, ?_, run_ifF ((test_op (run_var rfl) run_int opb_gtI).is (by subst hk; decide)) (run_var rfl)⟩
        · obtain ⟨q1, q2⟩ := List.mem_filter.mp hc
          exact ⟨q1, fun _ => by have := of_decide_eq_true q2; omega⟩
        · obtain ⟨c, hc, e⟩ := hrow.zero
          exact List.length_pos_of_mem (List.mem_filter.mpr ⟨hc, by simp [e]⟩)
        · exact Nat.le_trans (List.length_filter_le _ _) hc4
      · refine ⟨w.cs, fun c hc => ⟨hc, fun e => absurd e hk⟩, hrow.c1, hc4, run_ifT ((test_op (run_var rfl) run_int opb_gtI).is (decide_eq_true (by omega))) (RunL.toE (run_listT (run_a (run_op (run_wld rfl) run_int (opd_ixT rfl)) run_a0)))⟩
    refine run_seq (run_asgXG (vs := [5, 6]) (run_pick hF rfl rfl (by rw [cL] at hn; omega) hl4 (by rw [List.length_map]; exact hl2) (by rw [List.length_map]; omega)) fun x hx => ?_)
    obtain ⟨c, hc, rfl⟩ := List.mem_map.mp hx
    obtain ⟨hcw, hc0⟩ := hl1 c hc
    have hck := hrow.k2 c hcw
    refine ⟨_, rung2, ?_⟩
    rw [cL] at hn
    change RunS K F _ [some (.d (scD sc)), some (.twn (n + 1)), some (.wld w.D), some (.d (.int (k : Int))), some (.d (.list ((w.cs.filter fun c => decide ((c.k : Int) = 0)).map Con.D))), some (.d (.str c.n)), some (.d (.int (c.k : Int))), none, none] _
    have hcl : c.k * cL d ≤ 2 * cL d := Nat.mul_le_mul_right _ hck
    refine run_retX (n := n + 1 + c.k * cL d) (P := fun B v => ∃ x, (∃ zs : List Srt, (zs.length = c.k ∧ ∀ i s, zs[i]? = some s → SrtOk w s ∧ s.dep ≤ ch k i ∧ s.size ≤ sz (ch k i)) ∧ x = .tuple (.str c.n :: zs.map Srt.T)) ∧ Dp K B v x) (rd_op (pb := fun x => ∃ zs : List Srt, (zs.length = c.k ∧ ∀ i s, zs[i]? = some s → SrtOk w s ∧ s.dep ≤ ch k i ∧ s.size ≤ sz (ch k i)) ∧ x = .tuple (zs.map Srt.T)) (rd_pure (run_tupF (run_a (run_var rfl) run_a0) (by simp)) rfl)
      (rd_cb (RunDA.imp (rda_cons (rd_lc (vs := [8]) (fun (i : Nat) => PyData.int (i : Int)) (fun l => l = List.range c.k) Srt.T (fun l j zs => (zs.length = j ∧ j ≤ c.k) ∧ ∀ i s, zs[i]? = some s → SrtOk w s ∧ s.dep ≤ ch k i ∧ s.size ≤ sz (ch k i)) (fun j => n + 1 + j * cL d) (n + 1 + c.k * cL d) ((rix_pure (n := n + 1) (runi_rngM (run_a (run_var rfl) run_a0) (by omega)) rfl).imp fun ds e => ⟨_, e, rfl⟩).toT ?_ ?_ ?_ ?_ ?_) (rda_nil rfl)) (pl' := fun l => ∃ zs : List Srt, (zs.length = c.k ∧ ∀ i s, zs[i]? = some s → SrtOk w s ∧ s.dep ≤ ch k i ∧ s.size ≤ sz (ch k i)) ∧ l = [.list (zs.map Srt.T)]) ?_) ?_) ?_) fun B v ⟨x, ⟨zs, ⟨z1, z2⟩, e⟩, dv⟩ => ⟨⟨_, rfl, ?_⟩, ?_⟩
    · rintro l rfl
      exact ⟨⟨rfl, Nat.zero_le _⟩, fun i s h => by simp at h⟩
    · show n + 1 ≤ n + 1 + 0 * cL d
      omega
    · rintro l rfl
      rw [List.length_range]
      exact Nat.le_refl _
    · rintro l rfl j zs ⟨⟨hz, hj⟩, _⟩
      omega
    · rintro l rfl j y zs hy ⟨⟨hz1, hz3⟩, hz2⟩
      have hjk : y = j ∧ j < c.k := by
        obtain ⟨h1, h2⟩ := List.getElem?_eq_some_iff.mp hy
        rw [List.length_range] at h1
        rw [List.getElem_range] at h2
        exact ⟨h2.symm, h1⟩
      obtain ⟨rfl, hjk⟩ := hjk
      have hk2 : k ≠ 1 := fun e => by have := hc0 e; omega
      have hjm : y * cL d + cL d ≤ c.k * cL d := by
        rw [← Nat.succ_mul]
        exact Nat.mul_le_mul_right _ hjk
      refine ⟨_, n + 1 + y * cL d, fun b => b = true, rung_name (by decide), rdt_pure test_yes rfl, (fun z => nomatch z), fun _ => ?_⟩
      have hch : (if (k : Int) - 1 - (y : Int) > 1 then (k : Int) - 1 - (y : Int) else 1) = ((ch k y : Nat) : Int) := by
        unfold ch
        split <;> omega
      refine RunX.up (RunX.imp (run_callT2 (x3 := w) (x4 := ch k y) hF rfl rfl (rp_w rfl) (rp_d (RunE.is (run_cb (run_a run_int (run_a (run_op (run_op (run_var rfl) run_int opd_sub) (run_var rfl) opd_sub) run_a0)) call_max) (congrArg PyData.int hch))) ?_ ?_) ?_) (by show n + 1 + y * cL d + cL d ≤ n + 1 + (y + 1) * cL d; rw [Nat.succ_mul]; omega)
      · omega
      · refine ⟨hw, ?_, ?_, ?_⟩ <;> unfold ch <;> omega
      · rintro B v ⟨s, q1, q2, q3, q4⟩
        refine ⟨s, q4, ⟨by rw [List.length_append, hz1]; rfl, hjk⟩, fun i s' hs => ?_⟩
        by_cases hi : i < zs.length
        · rw [List.getElem?_append_left hi] at hs
          exact hz2 i s' hs
        · rw [List.getElem?_append_right (by omega)] at hs
          have hi0 : i - zs.length = 0 := by
            have := (List.getElem?_eq_some_iff.mp hs).1
            simp at this
            omega
          rw [hi0] at hs
          have e : s = s' := by simpa using hs
          subst e
          have : i = y := by omega
          subst this
          exact ⟨q1, q2, q3⟩
    · rintro l ⟨a, b, rfl, ⟨l', zs, rfl, hz, rfl⟩, rfl⟩
      rw [List.length_range] at hz
      exact ⟨zs, ⟨hz.1.1, hz.2⟩, rfl⟩
    · rintro l ⟨zs, hz, rfl⟩
      exact ⟨_, call_tupL, zs, hz, rfl⟩
    · rintro a b rfl ⟨zs, hz, rfl⟩
      exact ⟨_, opd_plusT (by rw [List.length_map, hz.1]; simp; omega), zs, hz, rfl⟩
    · rw [cL]
      omega
    · subst e
      have mk : ∀ s : Srt, s.T = .tuple (.str c.n :: zs.map Srt.T) → SrtOk w s → s.dep ≤ k → s.size ≤ sz k → ∃ s : Srt, SrtOk w s ∧ s.dep ≤ k ∧ s.size ≤ sz k ∧ Dp K B v s.T := fun s h1 h2 h3 h4 => ⟨s, h2, h3, h4, by rw [h1]; exact dv⟩
      match zs, z1, z2, mk with
      | [], z1, z2, mk =>
        refine mk (.c0 c.n) rfl (.c0 ?_) hk1 ?_
        · have : c = ⟨c.n, 0⟩ := by cases c; simp at z1; simp [← z1]
          rw [← this]
          exact hcw
        · show 1 ≤ sz k
          unfold sz
          split <;> (try split) <;> (try split) <;> omega
      | [a], z1, z2, mk =>
        obtain ⟨a1, a2, a3⟩ := z2 0 a rfl
        have hk2 : k ≠ 1 := fun e => by have := hc0 e; simp at z1; omega
        refine mk (.c1 c.n a) rfl (.c1 ?_ a1) ?_ ?_
        · have : c = ⟨c.n, 1⟩ := by cases c; simp at z1; simp [← z1]
          rw [← this]
          exact hcw
        · show a.dep + 1 ≤ k
          unfold ch at a2
          omega
        · show 1 + a.size ≤ sz k
          have hk : k = 2 ∨ k = 3 ∨ k = 4 := by omega
          rcases hk with rfl | rfl | rfl
          · have : a.size ≤ 1 := a3
            show 1 + a.size ≤ 3
            omega
          · have : a.size ≤ 3 := a3
            show 1 + a.size ≤ 5
            omega
          · have : a.size ≤ 5 := a3
            show 1 + a.size ≤ 9
            omega
      | [a, b], z1, z2, mk =>
        obtain ⟨a1, a2, a3⟩ := z2 0 a rfl
        obtain ⟨b1, b2, b3⟩ := z2 1 b rfl
        have hk2 : k ≠ 1 := fun e => by have := hc0 e; simp at z1; omega
        refine mk (.c2 c.n a b) rfl (.c2 ?_ a1 b1) ?_ ?_
        · have : c = ⟨c.n, 2⟩ := by cases c; simp at z1; simp [← z1]
          rw [← this]
          exact hcw
        · show max a.dep b.dep + 1 ≤ k
          unfold ch at a2 b2
          omega
        · show 1 + (a.size + b.size) ≤ sz k
          have hk : k = 2 ∨ k = 3 ∨ k = 4 := by omega
          rcases hk with rfl | rfl | rfl
          · have : a.size ≤ 1 := a3
            have : b.size ≤ 1 := b3
            show 1 + (a.size + b.size) ≤ 3
            omega
          · have : a.size ≤ 3 := a3
            have : b.size ≤ 1 := b3
            show 1 + (a.size + b.size) ≤ 5
            omega
          · have : a.size ≤ 5 := a3
            have : b.size ≤ 3 := b3
            show 1 + (a.size + b.size) ≤ 9
            omega
      | a :: b :: e :: r, z1, z2, mk =>
        simp at z1
        omega⟩
end Ts
set_option Elab.async false
set_option linter.all false
set_option maxRecDepth 100000
set_option maxHeartbeats 2000000
namespace Ts
open PySem PySem.Spec PyProof.Rows L2
local macro_rules | `(tactic| walk_at "go") => `(tactic| simp only [cxK, cxK2, List.map_cons, List.map_nil, List.length_cons, List.length_nil, List.replicate, List.cons_append, List.nil_append, List.append_nil, Pk.ent, Nat.reduceAdd, Nat.reduceSub])
local macro_rules | `(tactic| walk_at "rfl") => `(tactic| with_unfolding_all exact rfl)
local macro_rules | `(tactic| walk_at "op") => `(tactic| with_reducible first
  | exact opd_plusI | exact opd_sub | exact opd_mod (by decide) | exact opb_eqI | exact opb_neI | exact opb_eqS | exact opb_neS | exact opb_eqB | exact opb_neB
  | exact opb_leI | exact opb_gtI | exact opb_geI | exact opb_ltI | exact opb_ltS | exact opb_isN | exact opb_notN | exact opb_inSgF | exact opb_inSLF | exact opb_inSTF | exact opb_inSLT | exact opb_inSTT | exact opb_inS2F | exact opb_inS2T
  | (apply opd_ixT; try walk_at "ix") | (apply opd_ixL; try walk_at "ix") | (apply opd_ixS; rotate_left; try walk_at "ix"; rotate_right) | apply opd_plusT | apply opd_mul | apply opd_div | apply opd_pow)
local macro_rules | `(tactic| walk_at "opD") => `(tactic| with_reducible first
  | walk_at "op" | (apply OpB.toD; walk_at "op"))
local macro_rules | `(tactic| walk_at "call") => `(tactic| with_reducible first
  | apply run_call1 | apply run_call2 | apply run_call3 | apply run_call4 | apply run_call5)
local macro_rules | `(tactic| walk_at "kit") => `(tactic| with_unfolding_all first | exact kit_ii | exact kit_ib | exact kit_ss | exact kit_st | exact kit_ts | exact kit_tt | exact kit_it | exact kit_ns)
local macro_rules | `(tactic| walk_at "ix") => `(tactic| first | exact atI_zero | exact atI_one | assumption | (with_unfolding_all exact rfl))
local macro_rules | `(tactic| walk_at "e") => `(tactic| with_reducible first
  | exact run_int | exact run_str | exact run_bl | exact run_non
  | (apply run_var; walk_at "rfl") | (apply run_wld; walk_at "rfl")
  | exact run_a0 | apply run_a
  | apply run_op | apply run_isi | apply run_chain | apply run_not | apply run_neg
  | apply run_tupF | apply run_tail | apply run_slT | apply run_slS | exact runo_none | apply runo_some
  | apply run_cb | exact call_lenT | exact call_lenL | apply call_lenS | exact call_max
  | (apply rp_w; walk_at "rfl") | apply rp_d
  | walk_at "call" | (apply RunV.toD; walk_at "call") | (apply RunV.toE; walk_at "call")
  | apply test_of | apply test_B | apply test_not
  | exact trivial
  | (apply run_dget1I; apply run_tab; walk_at "rfl") | (apply run_dgetI; apply run_tab; walk_at "rfl") | (apply run_dgetI; apply run_varD; walk_at "rfl")
  | walk_at "kit"
  | (show _ = some _; assumption)
  | walk_at "opD")
local macro_rules | `(tactic| walk_at "es") => `(tactic| repeat' (first | walk_at "e"))
local macro_rules | `(tactic| walk_at "k") => `(tactic| with_reducible first
  | apply test_orF | apply test_andT | apply test_notT | apply test_notF
  | apply run_andT | apply run_orF)
local macro_rules | `(tactic| walk_at "kl") => `(tactic| with_reducible first | (apply RunT.is; apply test_of) | (apply RunT.is; apply test_B) | apply RunE.is)
local macro_rules | `(tactic| walk_at "side") => `(tactic| first | assumption | (apply decide_eq_false; assumption) | (apply decide_eq_true; assumption) | (with_unfolding_all exact rfl) | (simp; done) | (apply congrArg PyData.bool; assumption) | (simp [*]; done))
local macro_rules | `(tactic| walk_at "ks") => `(tactic| ((repeat' (first | walk_at "k")); (all_goals (try walk_at "kl")); (repeat' (first | walk_at "e")); (all_goals (try walk_at "side"))))
local macro_rules | `(tactic| walk_at "le") => `(tactic| repeat' (first | exact Le.nil | apply Le.keep | apply Le.drop))

variable {P : Program} {w : World} {K : PySem.W.Frag} {mg : Str → Option Value} {base : Heap}
/-- a list of names of traits of a form -/
theorem run_rowsOf {F : Fx} {r : PEnv} {tt : TT} {i j : Nat} {wd : Wd} {p : Trt → Bool} (hw : wd.ts.length ≤ 100) (hr : r[i]? = some (some (.wld wd.D))) (hj : (j ∈ [j])) (ht : ∀ t : Trt, RunT K F tt ((wipeR r [j]).set j (some (.d t.D))) (p t))
    (hv : ∀ t : Trt, ((wipeR r [j]).set j (some (.d t.D)))[j]? = some (some (.d t.D))) :
    RunL K F (tLc (iAny K (tOp (rIx K) (tVar i) (tC (.int 1)))) (gName j) tt (tOp (rIx K) (tVar j) (tC (.int 0))) [j]) r (((wd.ts.filter p).map Trt.n).map .str) := by
  refine (run_lc (vs := [j]) wd.ts Trt.D p (fun t => .str t.n) (runi_tup (run_op (run_wld hr) run_int (opd_ixT rfl))) (by omega) fun k c hc => ⟨_, rung_name hj, ht c, fun _ => run_op (run_var (hv c)) run_int (opd_ixT rfl)⟩).is ?_
  rw [List.map_map]
  rfl
theorem RunDT.imp {F : Fx} {r : PEnv} {tt : TT} {n : Nat} {q q' : Bool → Prop} (h : RunDT K F tt r n q) (z : ∀ b, q b → q' b) : RunDT K F tt r n q' := fun s B H ok Q k => h s B H ok Q fun b B' H' g t w => k b B' H' g t (z b w)
abbrev SpBody (K : PySem.W.Frag) (sc : List Int) : Sp := spT4 K sc 8 (.w Wd.D) (.d PyData.str) (.d (fun (k : Nat) => .int (k : Int))) (.d asksD) (fun w t k l => WOk w ∧ t ∈ w.ts.map Trt.n ∧ k ≤ 2 ∧ AskPre w (k : Int) l) (fun w t k l B v => ∃ b, BodyOk w t k b ∧ Dp K B v b)
theorem ok__law_body (sc : List Int) (hsc : sc.length ≤ 1000) (T : Tb K mg) : FnOk P w K mg base CX0 3 T._law_body.f T._law_body.fd ["_law_script", "_law_town_here", "_law_world_here", "_law_trait", "_law_parts", "_law_asks"] (SpBody K sc) :=
  have G__law_draw := ok__law_draw (P := P) (w := w) (base := base) sc hsc T
  have G__law_pick := ok__law_pick (P := P) (w := w) (base := base) sc hsc T
  fnT4 T._law_body.F sc__law_body fun cdv A outer s H E hr => ⟨_, (pss_cons (ps_set (i := 6) sc__law_body.nd rfl (.inl rfl) (pe_ix (ix_K K rfl) (pe_lc (own := [("_law_row", 15)]) rfl sc__law_body.nd (pi_any (pe_ix (ix_K K rfl) (vr 2 rfl (.inl rfl)) pe_int (fun _ _ => rfl))) (blkOk_by (own := [("_law_row", 15)]) (N := ["_law_script", "_law_town_here", "_law_world_here", "_law_trait", "_law_parts", "_law_asks", "_law_form", "_law_tells", "_law_number", "_law_reckoning", "_law_makes", "_law_rows", "_law_other", "_law_part", "_law_loose_here", "_law_row", "_law_k"]) (sc := defScope s__law_body) (by decide +kernel)) (fun _ _ _ _ _ => (pg_name (i := 15) sc__law_body.nd rfl (.inl rfl))) (fun _ _ _ _ _ => (pts_one (pt_cmpR (op_eqK K rfl (hu64 hr)) (pe_ix (ix_K K rfl) (vr 15 rfl (.inl rfl)) pe_int (fun _ _ => rfl)) (vr 3 rfl (.inr (.inl rfl))) (nomark _)))) (fun _ _ _ _ _ => (pe_ix (ix_K K rfl) (vr 15 rfl (.inl rfl)) pe_int (fun _ _ => rfl)))) pe_int (fun _ _ => rfl))) (pss_cons (ps_setLc (i := 7) (own := [("_law_row", 15)]) rfl sc__law_body.nd rfl rfl (sw_true rfl rfl rfl (by decide +kernel)) (pi_any (pe_ix (ix_K K rfl) (vr 2 rfl (.inl rfl)) pe_int (fun _ _ => rfl))) (blkOk_by (own := [("_law_row", 15)]) (N := ["_law_script", "_law_town_here", "_law_world_here", "_law_trait", "_law_parts", "_law_asks", "_law_form", "_law_tells", "_law_number", "_law_reckoning", "_law_makes", "_law_rows", "_law_other", "_law_part", "_law_loose_here", "_law_row", "_law_k"]) (sc := defScope s__law_body) (by decide +kernel)) (fun _ _ _ _ _ => (pg_name (i := 15) sc__law_body.nd rfl (.inl rfl))) (fun _ _ _ _ _ => (pts_one (pt_cmpR (op_eqK K rfl (hu64 hr)) (pe_ix (ix_K K rfl) (vr 15 rfl (.inl rfl)) pe_int (fun _ _ => rfl)) pe_str (nomark _)))) (fun _ _ _ _ _ => (pe_ix (ix_K K rfl) (vr 15 rfl (.inl rfl)) pe_int (fun _ _ => rfl)))) (pss_cons (ps_set (i := 8) sc__law_body.nd rfl (.inl rfl) (pe_tupF (pa_cons pe_str (pa_cons (pe_call G__law_draw (hr.mono (by omega)) rfl T._law_draw.m T._law_draw.F.kp T._law_draw.b .nil pass0 (pa_cons (vr 0 rfl (.inr (.inl rfl))) (pa_cons (vr 1 rfl (.inr (.inl rfl))) (pa_cons pe_int pa_nil)))) pa_nil)))) (pss_cons (ps_if (pt_cmpR (op_eqK K rfl (hu64 hr)) (vr 6 rfl (.inl rfl)) pe_str (nomark _)) (pss_cons (ps_set (i := 9) sc__law_body.nd rfl (.inl rfl) (pe_call G__law_pick (hr.mono (by omega)) rfl T._law_pick.m T._law_pick.F.kp T._law_pick.b .nil pass0 (pa_cons (vr 0 rfl (.inr (.inl rfl))) (pa_cons (vr 1 rfl (.inr (.inl rfl))) (pa_cons (pe_lst (pa_cons (pe_tupF (pa_cons pe_str pa_nil)) (pa_cons (pe_tupF (pa_cons pe_str (pa_cons (pe_tupF (pa_cons pe_str pa_nil)) (pa_cons (pe_tupF (pa_cons pe_str (pa_cons pe_int pa_nil))) pa_nil)))) (pa_cons (vr 8 rfl (.inl rfl)) pa_nil)))) pa_nil))))) (pss_cons (ps_set (i := 10) sc__law_body.nd rfl (.inr rfl) (pe_lc (own := [("_law_row", 15)]) rfl sc__law_body.nd (pi_any (pe_ix (ix_K K rfl) (vr 2 rfl (.inl rfl)) pe_int (fun _ _ => rfl))) (blkOk_by (own := [("_law_row", 15)]) (N := ["_law_script", "_law_town_here", "_law_world_here", "_law_trait", "_law_parts", "_law_asks", "_law_form", "_law_tells", "_law_number", "_law_reckoning", "_law_makes", "_law_rows", "_law_other", "_law_part", "_law_loose_here", "_law_row", "_law_k"]) (sc := defScope s__law_body) (by decide +kernel)) (fun _ _ _ _ _ => (pg_name (i := 15) sc__law_body.nd rfl (.inl rfl))) (fun _ _ _ _ _ => (pts_one (pt_cmpR (op_eqK K rfl (hu64 hr)) (pe_ix (ix_K K rfl) (vr 15 rfl (.inl rfl)) pe_int (fun _ _ => rfl)) pe_str (nomark _)))) (fun _ _ _ _ _ => (pe_ix (ix_K K rfl) (vr 15 rfl (.inl rfl)) pe_int (fun _ _ => rfl))))) (pss_one (ps_ret (pe_op (op_plusK K rfl) (pe_tupF (pa_cons pe_str (pa_cons (vr 9 rfl (.inl rfl)) pa_nil))) (pe_callTy call_tupA rfl T.g_tuple (by decide +kernel) (pa_cons (pe_lc (own := [("_law_k", 16)]) rfl sc__law_body.nd (pi_range1 rfl T.g_range (pa_cons (vr 4 rfl (.inl rfl)) pa_nil)) (blkOk_by (own := [("_law_k", 16)]) (N := ["_law_script", "_law_town_here", "_law_world_here", "_law_trait", "_law_parts", "_law_asks", "_law_form", "_law_tells", "_law_number", "_law_reckoning", "_law_makes", "_law_rows", "_law_other", "_law_part", "_law_loose_here", "_law_row", "_law_k"]) (sc := defScope s__law_body) (by decide +kernel)) (fun _ _ _ _ _ => (pg_name (i := 16) sc__law_body.nd rfl (.inl rfl))) (fun _ _ _ _ _ => pts_nil) (fun _ _ _ _ _ => (pe_tupF (pa_cons (pe_call G__law_pick (hr.mono (by omega)) rfl T._law_pick.m T._law_pick.F.kp T._law_pick.b .nil pass0 (pa_cons (vr 0 rfl (.inr (.inl rfl))) (pa_cons (vr 1 rfl (.inr (.inl rfl))) (pa_cons (vr 10 rfl (.inr (.inl rfl))) pa_nil)))) (pa_cons (pe_tupF (pa_cons pe_str pa_nil)) pa_nil))))) pa_nil))))))) pss_nil) (pss_cons (ps_set (i := 11) sc__law_body.nd rfl (.inl rfl) (pe_lst (pa_cons (pe_tupF (pa_cons pe_str pa_nil)) (pa_cons (vr 8 rfl (.inl rfl)) (pa_cons (pe_tupF (pa_cons pe_str (pa_cons (pe_tupF (pa_cons pe_str pa_nil)) (pa_cons (pe_tupF (pa_cons pe_str (pa_cons pe_int pa_nil))) pa_nil)))) pa_nil))))) (pss_cons (ps_for PassesOwn.never rfl (pi_any (vr 5 rfl (.inl rfl))) (pg_tupK K rfl (n := 2) rfl (pgs_cons (pg_name (i := 12) sc__law_body.nd rfl (.inl rfl)) (pgs_cons (pg_name (i := 13) sc__law_body.nd rfl (.inl rfl)) pgs_nil))) (pss_one (ps_if (pt_cmpR (op_inK K rfl (hu65 hr)) (vr 12 rfl (.inl rfl)) (vr 7 rfl (.inl rfl)) (by rfl)) (pss_cons (ps_set (i := 11) sc__law_body.nd rfl (.inl rfl) (pe_op (op_plusK K rfl) (vr 11 rfl (.inl rfl)) (pe_lst (pa_cons (pe_tupF (pa_cons pe_str (pa_cons (vr 12 rfl (.inl rfl)) (pa_cons (vr 13 rfl (.inl rfl)) pa_nil)))) (pa_cons (pe_tupF (pa_cons pe_str (pa_cons (pe_tupF (pa_cons pe_str pa_nil)) (pa_cons (pe_tupF (pa_cons pe_str (pa_cons (vr 12 rfl (.inl rfl)) (pa_cons (vr 13 rfl (.inl rfl)) pa_nil)))) pa_nil)))) pa_nil))))) (pss_one (ps_expr (pe_bm PySem.F.plainAttrs_list PySem.F.slot_list_append PySem.F.type_list_append mt_append (vr 11 rfl (.inl rfl)) (pa_cons (pe_tupF (pa_cons pe_str (pa_cons (pe_tupF (pa_cons pe_str (pa_cons (vr 12 rfl (.inl rfl)) (pa_cons (vr 13 rfl (.inl rfl)) pa_nil)))) (pa_cons (pe_tupF (pa_cons pe_str (pa_cons (pe_tupF (pa_cons pe_str (pa_cons pe_int pa_nil))) (pa_cons (pe_tupF (pa_cons pe_str (pa_cons (vr 12 rfl (.inl rfl)) (pa_cons (vr 13 rfl (.inl rfl)) pa_nil)))) pa_nil)))) pa_nil)))) pa_nil))))) pss_nil))) (pss_cons (ps_if (PW.pt (pw_and (pt_cmpR op_gtI (vr 4 rfl (.inl rfl)) pe_int (nomark _)) (pw_and1 (pt_cmpR (op_eqK K rfl (hu64 hr)) (pe_call G__law_draw (hr.mono (by omega)) rfl T._law_draw.m T._law_draw.F.kp T._law_draw.b .nil pass0 (pa_cons (vr 0 rfl (.inr (.inl rfl))) (pa_cons (vr 1 rfl (.inr (.inl rfl))) (pa_cons pe_int pa_nil)))) pe_int (nomark _))))) (pss_cons (ps_set (i := 14) sc__law_body.nd rfl (.inl rfl) (pe_tupF (pa_cons pe_str (pa_cons (pe_call G__law_pick (hr.mono (by omega)) rfl T._law_pick.m T._law_pick.F.kp T._law_pick.b .nil pass0 (pa_cons (vr 0 rfl (.inr (.inl rfl))) (pa_cons (vr 1 rfl (.inr (.inl rfl))) (pa_cons (vr 7 rfl (.inl rfl)) pa_nil)))) (pa_cons (pe_call G__law_draw (hr.mono (by omega)) rfl T._law_draw.m T._law_draw.F.kp T._law_draw.b .nil pass0 (pa_cons (vr 0 rfl (.inr (.inl rfl))) (pa_cons (vr 1 rfl (.inr (.inl rfl))) (pa_cons (vr 4 rfl (.inl rfl)) pa_nil)))) pa_nil))))) (pss_one (ps_set (i := 11) sc__law_body.nd rfl (.inl rfl) (pe_op (op_plusK K rfl) (vr 11 rfl (.inl rfl)) (pe_lst (pa_cons (vr 14 rfl (.inl rfl)) (pa_cons (pe_tupF (pa_cons pe_str (pa_cons (pe_tupF (pa_cons pe_str pa_nil)) (pa_cons (vr 14 rfl (.inl rfl)) pa_nil)))) (pa_cons (pe_tupF (pa_cons pe_str (pa_cons (vr 14 rfl (.inl rfl)) (pa_cons (pe_tupF (pa_cons pe_str (pa_cons pe_int pa_nil))) pa_nil)))) pa_nil)))))))) pss_nil) (pss_one (ps_ret (pe_call G__law_pick (hr.mono (by omega)) rfl T._law_pick.m T._law_pick.F.kp T._law_pick.b .nil pass0 (pa_cons (vr 0 rfl (.inr (.inl rfl))) (pa_cons (vr 1 rfl (.inr (.inl rfl))) (pa_cons (vr 11 rfl (.inl rfl)) pa_nil))))))))))))), fun w tr k asks ⟨hw, htr, hk2, hA⟩ F n hF hn => by
    walk_at "go"
    have hts := hw.n3
    obtain ⟨t, ht, rfl⟩ := List.mem_map.mp htr
    have hform := hw.form ht
    obtain ⟨rest, hx⟩ : ∃ rest, (w.ts.filter fun x : Trt => decide (x.n = t.n)).map (fun x => PyData.str x.f) = .str t.f :: rest := by
      unfold formOf at hform
      cases hl : w.ts.filter fun x : Trt => decide (x.n = t.n) with
      | nil => rw [hl] at hform; cases hform
      | cons y ys =>
        rw [hl] at hform
        have e : y.f = t.f := by simpa using hform
        exact ⟨_, by rw [List.map_cons, e]⟩
    refine run_asgq (d := .str t.f) (run_op (RunL.toE (run_lc (vs := [15]) w.ts Trt.D (fun x : Trt => decide (x.n = t.n)) (fun x => .str x.f) (runi_tup (run_op (run_wld rfl) run_int (opd_ixT rfl))) (by omega) fun i c hc => ⟨_, rung_name (by decide), test_op (run_op (run_var rfl) run_int (opd_ixT rfl)) (run_var rfl) opb_eqS, fun _ => run_op (run_var rfl) run_int (opd_ixT rfl)⟩)) run_int (opd_ixL (by rw [hx]; exact atI_zero))) ?_
    refine run_asgq (d := .list (((w.ts.filter fun x : Trt => decide (x.f = "tell")).map Trt.n).map .str)) (RunL.toE (run_rowsOf (by omega) rfl (by decide) (fun t => test_op (run_op (run_var rfl) run_int (opd_ixT rfl)) run_str opb_eqS) (fun t => rfl))) ?_
    refine run_seq (run_asgX (p := fun d => ∃ m : Nat, m ≤ 99 ∧ d = (Rk.num m).D) ((rd_tup (rda_cons (rd_pure run_str rfl) (rda_cons (rd_draw (l := 100) hF rfl rfl (RunE.is run_int rfl) (by decide) (by decide) (by omega)) (rda_nil rfl))) ?_).imp ?_) ?_)
    · rintro ds ⟨a, l, rfl, _, b, l', rfl, _, rfl⟩
      simp
    · rintro d ⟨ds, ⟨a, l, rfl, rfl, b, l', rfl, ⟨z, rfl, z1, z2⟩, rfl⟩, rfl⟩
      refine ⟨z.toNat, by omega, ?_⟩
      show _ = PyData.tuple [.str "number", .int (z.toNat : Int)]
      rw [Int.toNat_of_nonneg z1]
    rintro d ⟨m, hm, rfl⟩
    change RunS K F _ [some (.d (scD sc)), some (.twn (n + 1)), some (.wld w.D), some (.d (.str t.n)), some (.d (.int (k : Int))), some (.d (asksD asks)), some (.d (.str t.f)), some (.d (.list (((w.ts.filter fun x : Trt => decide (x.f = "tell")).map Trt.n).map .str))), some (.d (Rk.num m).D), none, none, none, none, none, none, none, none] _
    have hnum : ∀ p : Int, ShortOk w p (.num m) := fun p => ⟨.num hm, (by show 1 < 6; decide), (by show 1 ≤ 15; decide)⟩
    refine run_seq (run_iff (k := decide (t.f = "make")) (test_op (run_var rfl) run_str opb_eqS) (fun hmk => ?_) (fun hmk => run_next ?_))
    · have hmk := of_decide_eq_true hmk
      refine run_seq (run_asgX (p := fun d => ∃ x : Rk, ShortOk w (-1) x ∧ d = x.D) ((run_pick (ds := [Rk.mark.D, (Rk.plus .mark (.num 1)).D, (Rk.num m).D]) hF rfl rfl (by omega) (RunL.toE (run_lst (run_a (RunE.is (run_tupF (run_a run_str run_a0) (by simp)) rfl) (run_a (RunE.is (run_tupF (run_a run_str (run_a (run_tupF (run_a run_str run_a0) (by simp)) (run_a (run_tupF (run_a run_str (run_a run_int run_a0)) (by simp)) run_a0))) (by simp)) rfl) (run_a (run_var rfl) run_a0))) (by simp))) (by simp) (by simp)).imp ?_) ?_)
      · intro d hd
        have : d = Rk.mark.D ∨ d = (Rk.plus .mark (.num 1)).D ∨ d = (Rk.num m).D := by simpa using hd
        rcases this with rfl | rfl | rfl
        · exact ⟨.mark, ⟨.mark, by decide, by decide⟩, rfl⟩
        · exact ⟨.plus .mark (.num 1), ⟨.plus .mark (.num (by decide)), by decide, by decide⟩, rfl⟩
        · exact ⟨.num m, hnum _, rfl⟩
      rintro d ⟨x, hx, rfl⟩
      refine run_asgq (d := .list (((w.ts.filter fun x : Trt => decide (x.f = "make")).map Trt.n).map .str)) (RunL.toE (run_rowsOf (by omega) rfl (by decide) (fun t => test_op (run_op (run_var rfl) run_int (opd_ixT rfl)) run_str opb_eqS) (fun t => rfl))) ?_
      change RunS K F _ [some (.d (scD sc)), some (.twn (n + 2)), some (.wld w.D), some (.d (.str t.n)), some (.d (.int (k : Int))), some (.d (asksD asks)), some (.d (.str t.f)), some (.d (.list (((w.ts.filter fun x : Trt => decide (x.f = "tell")).map Trt.n).map .str))), some (.d (Rk.num m).D), some (.d x.D), some (.d (.list (((w.ts.filter fun x : Trt => decide (x.f = "make")).map Trt.n).map .str))), none, none, none, none, none, none] _
      have hmem : t ∈ w.ts.filter fun x : Trt => decide (x.f = "make") := List.mem_filter.mpr ⟨ht, by simp [hmk]⟩
      refine run_retX (n := n + 2 + k) (P := fun B v => ∃ d, (∃ zs : List (Str × Rk), (zs.length = k ∧ ∀ y ∈ zs, ShortOk w (-1) y.2 ∧ ∃ z ∈ w.ts, z.n = y.1 ∧ z.f = "make") ∧ d = .tuple (.str "made" :: x.D :: zs.map fun y => .tuple [.str y.1, y.2.D])) ∧ Dp K B v d) (rd_op (pb := fun d => ∃ zs : List (Str × Rk), (zs.length = k ∧ ∀ y ∈ zs, ShortOk w (-1) y.2 ∧ ∃ z ∈ w.ts, z.n = y.1 ∧ z.f = "make") ∧ d = .tuple (zs.map fun y => .tuple [.str y.1, y.2.D])) (rd_pure (run_tupF (run_a run_str (run_a (run_var rfl) run_a0)) (by simp)) rfl)
        (rd_cb (RunDA.imp (rda_cons (rd_lc (vs := [16]) (fun (i : Nat) => PyData.int (i : Int)) (fun l => l = List.range k) (fun (y : Str × Rk) => .tuple [.str y.1, y.2.D]) (fun l j zs => (zs.length = j ∧ j ≤ k) ∧ ∀ y ∈ zs, ShortOk w (-1) y.2 ∧ ∃ z ∈ w.ts, z.n = y.1 ∧ z.f = "make") (fun j => n + 2 + j) (n + 2 + k) ((rix_pure (n := n + 2) (runi_rngM (run_a (run_var rfl) run_a0) (by omega)) rfl).imp fun ds e => ⟨_, e, rfl⟩).toT ?_ ?_ ?_ ?_ ?_) (rda_nil rfl)) (pl' := fun l => ∃ zs : List (Str × Rk), (zs.length = k ∧ ∀ y ∈ zs, ShortOk w (-1) y.2 ∧ ∃ z ∈ w.ts, z.n = y.1 ∧ z.f = "make") ∧ l = [.list (zs.map fun y => .tuple [.str y.1, y.2.D])]) ?_) ?_) ?_) ?_
      · rintro l rfl
        exact ⟨⟨rfl, Nat.zero_le _⟩, fun y h => by cases h⟩
      · exact Nat.le_refl _
      · rintro l rfl
        rw [List.length_range]
        exact Nat.le_refl _
      · rintro l rfl j zs ⟨⟨hz, hj⟩, _⟩
        omega
      · rintro l rfl j y zs hy ⟨⟨hz1, hz3⟩, hz2⟩
        have hjk : y = j ∧ j < k := by
          obtain ⟨h1, h2⟩ := List.getElem?_eq_some_iff.mp hy
          rw [List.length_range] at h1
          rw [List.getElem_range] at h2
          exact ⟨h2.symm, h1⟩
        obtain ⟨rfl, hjk⟩ := hjk
        refine ⟨_, n + 2 + y, fun b => b = true, rung_name (by decide), rdt_pure test_yes rfl, (fun z => nomatch z), fun _ => ?_⟩
        refine RunX.imp (rd_tup (rda_cons (run_pick hF rfl rfl (by omega) (run_var rfl) (by rw [List.length_map, List.length_map]; exact List.length_pos_of_mem hmem) (by rw [List.length_map, List.length_map]; have := List.length_filter_le (fun x : Trt => decide (x.f = "make")) w.ts; omega)) (rda_cons (rd_pure (RunE.is (run_tupF (run_a run_str run_a0) (by simp)) (show _ = Rk.mark.D from rfl)) rfl) (rda_nil rfl))) ?_) ?_
        · rintro ds ⟨a, l, rfl, _, b, l', rfl, _, rfl⟩
          simp
        · rintro B v ⟨d, ⟨ds, ⟨a, l, rfl, ha, b, l', rfl, rfl, rfl⟩, rfl⟩, dv⟩
          obtain ⟨s, hs, rfl⟩ := List.mem_map.mp ha
          obtain ⟨z, hz, rfl⟩ := List.mem_map.mp hs
          obtain ⟨q1, q2⟩ := List.mem_filter.mp hz
          refine ⟨(z.n, .mark), dv, ⟨by rw [List.length_append, hz1]; rfl, hjk⟩, fun y' hy' => ?_⟩
          rcases List.mem_append.mp hy' with q | q
          · exact hz2 y' q
          · have : y' = (z.n, .mark) := by simpa using q
            subst this
            exact ⟨⟨.mark, (by show 1 < 6; decide), (by show 1 ≤ 15; decide)⟩, z, q1, rfl, of_decide_eq_true q2⟩
      · rintro l ⟨a, b, rfl, ⟨l', zs, rfl, hz, rfl⟩, rfl⟩
        rw [List.length_range] at hz
        exact ⟨zs, ⟨hz.1.1, hz.2⟩, rfl⟩
      · rintro l ⟨zs, hz, rfl⟩
        exact ⟨_, call_tupL, zs, hz, rfl⟩
      · rintro a b rfl ⟨zs, hz, rfl⟩
        exact ⟨_, opd_plusT (by rw [List.length_map, hz.1]; simp; omega), zs, hz, rfl⟩
      · rintro B v ⟨d, ⟨zs, ⟨hz1, hz2⟩, rfl⟩, dv⟩
        refine ⟨⟨_, rfl, by omega⟩, _, .make (by rw [hform, hmk]) hx hz1 hz2, dv⟩
    have hft : t.f = "tell" := by
      have := hw.wd.trs.form t ht
      have hne := of_decide_eq_false hmk
      simp only [List.mem_cons, List.not_mem_nil, or_false] at this
      rcases this with q | q
      · exact q
      · exact absurd q hne
    let tl : List Str := (w.ts.filter fun x : Trt => decide (x.f = "tell")).map Trt.n
    have htl : ∀ x ∈ tl, ∃ z ∈ w.ts, z.n = x ∧ z.f = "tell" := fun x hx => by
      obtain ⟨z, hz, rfl⟩ := List.mem_map.mp hx
      obtain ⟨q1, q2⟩ := List.mem_filter.mp hz
      exact ⟨z, q1, rfl, of_decide_eq_true q2⟩
    have htl0 : 0 < tl.length := by
      rw [List.length_map]
      exact List.length_pos_of_mem (List.mem_filter.mpr ⟨ht, by simp [hft]⟩)
    have htl4 : tl.length ≤ 3 := by
      rw [List.length_map]
      exact Nat.le_trans (List.length_filter_le _ _) hts
    refine run_asgLq (ds := [Rk.mark.D, (Rk.num m).D, (Rk.times .mark (.num 3)).D]) (run_lst (run_a (RunE.is (run_tupF (run_a run_str run_a0) (by simp)) rfl) (run_a (run_var rfl) (run_a (RunE.is (run_tupF (run_a run_str (run_a (run_tupF (run_a run_str run_a0) (by simp)) (run_a (run_tupF (run_a run_str (run_a run_int run_a0)) (by simp)) run_a0))) (by simp)) rfl) run_a0))) (by simp)) ?_
    change RunS K F _ [some (.d (scD sc)), some (.twn (n + 1)), some (.wld w.D), some (.d (.str t.n)), some (.d (.int (k : Int))), some (.d (asksD asks)), some (.d (.str t.f)), some (.d (.list (tl.map .str))), some (.d (Rk.num m).D), none, none, some (.own [Rk.mark.D, (Rk.num m).D, (Rk.times .mark (.num 3)).D]), none, none, none, none, none] _
    refine run_seq (run_forI (vs := [12, 13]) (n := n + 1) Ask.D (fun l => l = asks) (fun l i r0 => ∃ rks : List Rk, (∀ x ∈ rks, ShortOk w (k : Int) x) ∧ 0 < rks.length ∧ rks.length ≤ 3 + 3 * i ∧ r0 = [some (.d (scD sc)), some (.twn (n + 1)), some (.wld w.D), some (.d (.str t.n)), some (.d (.int (k : Int))), none, none, some (.d (.list (tl.map .str))), none, none, none, some (.own (rks.map Rk.D)), none, none, none, none, none]) ((rix_pure (runi_tup (run_var rfl)) rfl).imp fun ds e => ⟨_, e, rfl⟩) ?_ ?_ ?_)
    · rintro l rfl
      refine ⟨_, ⟨[.mark, .num m, .times .mark (.num 3)], fun x hx => ?_, by simp, by simp, rfl⟩, by walk_at "le"⟩
      have : x = .mark ∨ x = .num m ∨ x = .times .mark (.num 3) := by simpa using hx
      rcases this with rfl | rfl | rfl
      · exact ⟨.mark, by decide, by decide⟩
      · exact hnum _
      · exact ⟨.times .mark (.num (by decide)), by decide, by decide⟩
    · rintro l rfl i a r0 ha ⟨rks, c1, c2, c3, rfl⟩
      have hi3 : i < 3 := Nat.lt_of_lt_of_le (List.getElem?_eq_some_iff.mp ha).1 hA.len
      have ham := List.mem_of_getElem? ha
      refine ⟨_, rung2, ?_⟩
      change RunS K F _ [some (.d (scD sc)), some (.twn (n + 1)), some (.wld w.D), some (.d (.str t.n)), some (.d (.int (k : Int))), none, none, some (.d (.list (tl.map .str))), none, none, none, some (.own (rks.map Rk.D)), some (.d (.str a.t)), some (.d (.int (a.p : Int))), none, none, none] _
      refine run_iff (k := decide (a.t ∈ tl)) (test_op (run_var rfl) (run_var rfl) opb_inSLF) (fun hin => ?_) (fun _ => run_next ⟨_, ⟨rks, c1, c2, by omega, rfl⟩, by walk_at "le"⟩)
      have hin := of_decide_eq_true hin
      have hap := hA.part a ham
      have tk_ : RkOk w (k : Int) (.tell a.t a.p) := .tell hap (htl _ hin)
      have tup3 : ∀ {r : PEnv}, r[12]? = some (some (.d (.str a.t))) → r[13]? = some (some (.d (.int (a.p : Int)))) → RunE K F (tTupF (tCons (tC (.str "tell")) (tCons (tVar 12) (tCons (tVar 13) tNil)))) r (Rk.tell a.t a.p).D := fun {r} e1 e2 => run_tupF (run_a run_str (run_a (run_var e1) (run_a (run_var e2) run_a0))) (by simp)
      refine run_seq (run_asgL (ds := rks.map Rk.D ++ [(Rk.tell a.t a.p).D, (Rk.plus .mark (.tell a.t a.p)).D]) (run_cat (run_own rfl) (RunL.toR (run_lst (run_a (tup3 rfl rfl) (run_a (RunE.is (run_tupF (run_a run_str (run_a (run_tupF (run_a run_str run_a0) (by simp)) (run_a (tup3 rfl rfl) run_a0))) (by simp)) rfl) run_a0)) (by simp))) (by rw [List.length_map]; simp; omega)) ?_)
      refine run_append (i := 11) (ds := rks.map Rk.D ++ [(Rk.tell a.t a.p).D, (Rk.plus .mark (.tell a.t a.p)).D]) (d := (Rk.plus (.tell a.t a.p) (.times (.num 2) (.tell a.t a.p))).D) rfl (by rw [List.length_append, List.length_map]; simp; omega) (RunE.is (run_tupF (run_a run_str (run_a (tup3 rfl rfl) (run_a (run_tupF (run_a run_str (run_a (run_tupF (run_a run_str (run_a run_int run_a0)) (by simp)) (run_a (tup3 rfl rfl) run_a0))) (by simp)) run_a0))) (by simp)) rfl) ?_
      refine ⟨_, ⟨rks ++ [.tell a.t a.p, .plus .mark (.tell a.t a.p)] ++ [.plus (.tell a.t a.p) (.times (.num 2) (.tell a.t a.p))], fun x hx => ?_, by simp, by simp; omega, rfl⟩, ?_⟩
      · rcases List.mem_append.mp hx with hx | hx
        · rcases List.mem_append.mp hx with hx | hx
          · exact c1 x hx
          · have : x = .tell a.t a.p ∨ x = .plus .mark (.tell a.t a.p) := by simpa using hx
            rcases this with rfl | rfl
            · exact ⟨tk_, (by show 1 < 6; decide), (by show 1 ≤ 15; decide)⟩
            · exact ⟨.plus .mark tk_, (by show max 1 1 + 1 < 6; decide), (by show 1 + (1 + 1) ≤ 15; decide)⟩
        · have : x = .plus (.tell a.t a.p) (.times (.num 2) (.tell a.t a.p)) := by simpa using hx
          subst this
          exact ⟨.plus tk_ (.times (.num (by decide)) tk_), (by show max 1 (max 1 1 + 1) + 1 < 6; decide), (by show 1 + (1 + (1 + (1 + 1))) ≤ 15; decide)⟩
      · rw [List.map_append, List.map_append]
        walk_at "le"
    · rintro l r0 rfl ⟨rks, c1, c2, c3, rfl⟩
      have hal := hA.len
      have fin : ∀ (rks : List Rk) (m : Nat), (∀ x ∈ rks, ShortOk w (k : Int) x) → 0 < rks.length → rks.length ≤ 100 → m + 1 ≤ n + 8 → RunS K F (tRet (tCall (spPick K sc) [] E0 (tCons (tVar 0) (tCons (tVar 1) (tCons (tVar 11) tNil))))) [some (.d (scD sc)), some (.twn m), none, none, none, none, none, none, none, none, none, some (.own (rks.map Rk.D)), none, none, none, none, none] (endsT (n + 8) fun B v => ∃ b, BodyOk w t.n k b ∧ Dp K B v b) := fun rks m d1 d2 d3 d4 => by
        refine run_freeze 11 rfl ?_
        refine run_retX (run_pick hF rfl rfl (by omega) (run_var rfl) (by rw [List.length_map]; exact d2) (by rw [List.length_map]; omega)) fun B v ⟨d, hd, dv⟩ => ⟨⟨_, rfl, d4⟩, ?_⟩
        obtain ⟨x, hx, rfl⟩ := List.mem_map.mp hd
        exact ⟨_, .tell (by rw [hform, hft]) (d1 x hx), dv⟩
      refine run_seq (run_ifX (n := n + 2) (q := fun b => b = true → 0 < k) (rdt_and (n1 := n + 1) (q := fun b => b = decide ((0 : Int) < (k : Int))) (q2 := fun _ => 0 < k) (rdt_pure (test_op (run_var rfl) run_int opb_gtI) rfl) (fun hq => (rdt_draw0 (l := 8) hF rfl rfl rfl (RunE.is run_int rfl) (by decide) (by decide) (by omega)).imp fun b _ => by have := of_decide_eq_true hq.symm; omega) (by omega) (fun z => nomatch z) (fun b h _ => h)) (fun hq => ?_) (fun _ => run_next ?_))
      · have hk0 := hq rfl
        change RunS K F _ [some (.d (scD sc)), some (.twn (n + 2)), some (.wld w.D), some (.d (.str t.n)), some (.d (.int (k : Int))), none, none, some (.d (.list (tl.map .str))), none, none, none, some (.own (rks.map Rk.D)), none, none, none, none, none] _
        refine run_seq (run_asgX (p := fun d => ∃ x p, x ∈ tl ∧ p < k ∧ d = (Rk.tell x p).D) ((rd_tup (rda_cons (rd_pure run_str rfl) (rda_cons (run_pick hF rfl rfl (by omega) (run_var rfl) (by rw [List.length_map]; exact htl0) (by rw [List.length_map]; omega)) (rda_cons (rd_draw (l := k) hF rfl rfl (run_var rfl) hk0 (by omega) (by omega)) (rda_nil rfl)))) ?_).imp ?_) ?_)
        · rintro ds ⟨a, l, rfl, _, b, l', rfl, _, c, l'', rfl, _, rfl⟩
          simp
        · rintro d ⟨ds, ⟨a, l, rfl, rfl, b, l', rfl, hb, c, l'', rfl, ⟨z, rfl, z1, z2⟩, rfl⟩, rfl⟩
          obtain ⟨x, hx, rfl⟩ := List.mem_map.mp hb
          refine ⟨x, z.toNat, hx, by omega, ?_⟩
          show _ = PyData.tuple [.str "tell", .str x, .int (z.toNat : Int)]
          rw [Int.toNat_of_nonneg z1]
        rintro d ⟨x, p, hx, hp, rfl⟩
        have tk_ : RkOk w (k : Int) (.tell x p) := .tell (by omega) (htl _ hx)
        change RunS K F _ [some (.d (scD sc)), some (.twn (n + 4)), some (.wld w.D), some (.d (.str t.n)), some (.d (.int (k : Int))), none, none, some (.d (.list (tl.map .str))), none, none, none, some (.own (rks.map Rk.D)), none, none, some (.d (Rk.tell x p).D), none, none] _
        refine run_asgL (ds := rks.map Rk.D ++ [(Rk.tell x p).D, (Rk.plus .mark (.tell x p)).D, (Rk.times (.tell x p) (.num 2)).D]) (run_cat (run_own rfl) (RunL.toR (run_lst (run_a (run_var rfl) (run_a (RunE.is (run_tupF (run_a run_str (run_a (run_tupF (run_a run_str run_a0) (by simp)) (run_a (run_var rfl) run_a0))) (by simp)) rfl) (run_a (RunE.is (run_tupF (run_a run_str (run_a (run_var rfl) (run_a (run_tupF (run_a run_str (run_a run_int run_a0)) (by simp)) run_a0))) (by simp)) rfl) run_a0))) (by simp))) (by rw [List.length_map]; simp; omega)) ?_
        have e : rks.map Rk.D ++ [(Rk.tell x p).D, (Rk.plus .mark (.tell x p)).D, (Rk.times (.tell x p) (.num 2)).D] = (rks ++ [Rk.tell x p, Rk.plus .mark (.tell x p), Rk.times (.tell x p) (.num 2)]).map Rk.D := by rw [List.map_append]; rfl
        rw [e]
        refine run_weak ?_ (fin (rks ++ [.tell x p, .plus .mark (.tell x p), .times (.tell x p) (.num 2)]) (n + 4) (fun y hy => ?_) (by simp) (by simp; omega) (by omega))
        · walk_at "le"
        · rcases List.mem_append.mp hy with hy | hy
          · exact c1 y hy
          · have : y = .tell x p ∨ y = .plus .mark (.tell x p) ∨ y = .times (.tell x p) (.num 2) := by simpa using hy
            rcases this with rfl | rfl | rfl
            · exact ⟨tk_, (by show 1 < 6; decide), (by show 1 ≤ 15; decide)⟩
            · exact ⟨.plus .mark tk_, (by show max 1 1 + 1 < 6; decide), (by show 1 + (1 + 1) ≤ 15; decide)⟩
            · exact ⟨.times tk_ (.num (by decide)), (by show max 1 1 + 1 < 6; decide), (by show 1 + (1 + 1) ≤ 15; decide)⟩
      · refine run_weak ?_ (fin rks (n + 2) c1 c2 (by omega) (by omega))
        walk_at "le"⟩
end Ts
set_option Elab.async false
set_option linter.all false
set_option maxRecDepth 100000
set_option maxHeartbeats 2000000
namespace Ts
open PySem PySem.Spec PyProof.Rows L2
local macro_rules | `(tactic| walk_at "go") => `(tactic| simp only [cxK, cxK2, List.map_cons, List.map_nil, List.length_cons, List.length_nil, List.replicate, List.cons_append, List.nil_append, List.append_nil, Pk.ent, Nat.reduceAdd, Nat.reduceSub])
local macro_rules | `(tactic| walk_at "rfl") => `(tactic| with_unfolding_all exact rfl)
local macro_rules | `(tactic| walk_at "op") => `(tactic| with_reducible first
  | exact opd_plusI | exact opd_sub | exact opd_mod (by decide) | exact opb_eqI | exact opb_neI | exact opb_eqS | exact opb_neS | exact opb_eqB | exact opb_neB
  | exact opb_leI | exact opb_gtI | exact opb_geI | exact opb_ltI | exact opb_ltS | exact opb_isN | exact opb_notN | exact opb_inSgF | exact opb_inSLF | exact opb_inSTF | exact opb_inSLT | exact opb_inSTT | exact opb_inS2F | exact opb_inS2T
  | (apply opd_ixT; try walk_at "ix") | (apply opd_ixL; try walk_at "ix") | (apply opd_ixS; rotate_left; try walk_at "ix"; rotate_right) | apply opd_plusT | apply opd_mul | apply opd_div | apply opd_pow)
local macro_rules | `(tactic| walk_at "opD") => `(tactic| with_reducible first
  | walk_at "op" | (apply OpB.toD; walk_at "op"))
local macro_rules | `(tactic| walk_at "call") => `(tactic| with_reducible first
  | apply run_call1 | apply run_call2 | apply run_call3 | apply run_call4 | apply run_call5)
local macro_rules | `(tactic| walk_at "kit") => `(tactic| with_unfolding_all first | exact kit_ii | exact kit_ib | exact kit_ss | exact kit_st | exact kit_ts | exact kit_tt | exact kit_it | exact kit_ns)
local macro_rules | `(tactic| walk_at "ix") => `(tactic| first | exact atI_zero | exact atI_one | assumption | (with_unfolding_all exact rfl))
local macro_rules | `(tactic| walk_at "e") => `(tactic| with_reducible first
  | exact run_int | exact run_str | exact run_bl | exact run_non
  | (apply run_var; walk_at "rfl") | (apply run_wld; walk_at "rfl")
  | exact run_a0 | apply run_a
  | apply run_op | apply run_isi | apply run_chain | apply run_not | apply run_neg
  | apply run_tupF | apply run_tail | apply run_slT | apply run_slS | exact runo_none | apply runo_some
  | apply run_cb | exact call_lenT | exact call_lenL | apply call_lenS | exact call_max
  | (apply rp_w; walk_at "rfl") | apply rp_d
  | walk_at "call" | (apply RunV.toD; walk_at "call") | (apply RunV.toE; walk_at "call")
  | apply test_of | apply test_B | apply test_not
  | exact trivial
  | (apply run_dget1I; apply run_tab; walk_at "rfl") | (apply run_dgetI; apply run_tab; walk_at "rfl") | (apply run_dgetI; apply run_varD; walk_at "rfl")
  | walk_at "kit"
  | (show _ = some _; assumption)
  | walk_at "opD")
local macro_rules | `(tactic| walk_at "es") => `(tactic| repeat' (first | walk_at "e"))
local macro_rules | `(tactic| walk_at "k") => `(tactic| with_reducible first
  | apply test_orF | apply test_andT | apply test_notT | apply test_notF
  | apply run_andT | apply run_orF)
local macro_rules | `(tactic| walk_at "kl") => `(tactic| with_reducible first | (apply RunT.is; apply test_of) | (apply RunT.is; apply test_B) | apply RunE.is)
local macro_rules | `(tactic| walk_at "side") => `(tactic| first | assumption | (apply decide_eq_false; assumption) | (apply decide_eq_true; assumption) | (with_unfolding_all exact rfl) | (simp; done) | (apply congrArg PyData.bool; assumption) | (simp [*]; done))
local macro_rules | `(tactic| walk_at "ks") => `(tactic| ((repeat' (first | walk_at "k")); (all_goals (try walk_at "kl")); (repeat' (first | walk_at "e")); (all_goals (try walk_at "side"))))
local macro_rules | `(tactic| walk_at "le") => `(tactic| repeat' (first | exact Le.nil | apply Le.keep | apply Le.drop))
local macro_rules | `(tactic| walk_at "leT") => `(tactic| ((repeat' (first | exact Le.nil | apply Le.keep | apply Le.twn | apply Le.drop)); (all_goals (try omega))))

theorem rd_lst {K : PySem.W.Frag} {F : Fx} {r : PEnv} {ta : TA} {n : Nat} {pl : List PyData → Prop} (h : RunDA K F ta r n pl) (hl : ∀ ds, pl ds → ds.length ≤ 1000000) : RunD K F (tLst ta) r n (fun d => ∃ ds, pl ds ∧ d = .list ds) := fun s B H ok Q k => h s B H ok _ fun vs B1 H1 ds g1 t1 pds dvs =>
  ⟨by rw [dpAll_len dvs]; exact line_of (hl ds pds), fun p hp => by
    have g2 := (Grow.out (o := .lst vs) g1.bh hp).freeze hp (g1.bh.free hp) upd_same
    exact k _ _ _ (g1.trans g2.toT) (t1.grow g2) ⟨_, ⟨ds, pds, rfl⟩, .lst (SqL.of upd_same) (dpAll_mono (Same.new (g1.bh.free hp)) _ _ dvs)⟩⟩
theorem rix_tup {K : PySem.W.Frag} {F : Fx} {r : PEnv} {tl : TE} {n : Nat} {p : PyData → Prop} {pl : List PyData → Prop} (h : RunD K F tl r n p) (hp : ∀ d, p d → ∃ ds, d = .tuple ds ∧ pl ds) : RunIX K F StabS (iAny K tl) r n pl := fun s B H ok R k => h s B H ok _ fun v B1 H1 g1 t1 ⟨d, pd, dv⟩ => by
  obtain ⟨ds, rfl, hds⟩ := hp d pd
  obtain ⟨a, xs, rfl, hs, ha⟩ := dp_tup dv
  exact .inl ⟨a, rfl, ⟨xs, sqT_mono g1.bh hs⟩, k _ _ B1 H1 ds g1 t1 hds ⟨g1.bh, xs, hs, ha⟩ (stabs_dat (φ := fun B => ∃ xs, SqT K B a xs ∧ DpAll K B xs ds) fun B B' ⟨xs, c, d⟩ e => ⟨xs, sqT_mono e c, dpAll_mono e _ _ d⟩) walkd_tup⟩
/-! ### asks in order -/
abbrev kLe (a b : Ask) : Bool := PySem.W.dataLe false id a.D b.D
theorem ask_lt (a b : Ask) : PySem.W.dataLt a.D b.D = if a.t = b.t then decide (a.p < b.p) else decide (a.t.cps.toList < b.t.cps.toList) := by
  show PySem.W.dataLt (.tuple [.str a.t, .int a.p]) (.tuple [.str b.t, .int b.p]) = _
  rw [PySem.W.dataLt_pair (by simp [PySem.W.alike]) (by simp [PySem.W.alike]), PySem.W.dataLt_int, PySem.W.dataLt_str]
  simp only [PyData.eqv, beq_iff_eq]
  by_cases h1 : a.t = b.t
  · rw [if_pos h1, if_pos h1]
    by_cases h2 : (a.p : Int) = (b.p : Int)
    · rw [if_pos h2, decide_eq_false (by omega)]
    · rw [if_neg h2]
      exact decide_eq_decide.mpr (by omega)
  · rw [if_neg h1, if_neg h1]
theorem ask_strict {a b : Ask} (h : kLe a b = true) (hne : a ≠ b) : PySem.W.dataLt a.D b.D = true := by
  have h : (!PySem.W.dataLt b.D a.D) = true := h
  rw [ask_lt] at h ⊢
  by_cases h1 : a.t = b.t
  · rw [if_pos h1]
    rw [if_pos h1.symm] at h
    have h2 : ¬ b.p < a.p := by simpa using h
    have h3 : a.p ≠ b.p := fun e => hne (by cases a; cases b; simp at h1 e; rw [h1, e])
    exact decide_eq_true (by omega)
  · rw [if_neg h1]
    rw [if_neg (fun e => h1 e.symm)] at h
    have h2 : ¬ b.t.cps.toList < a.t.cps.toList := by simpa using h
    have h3 := List.not_lt.mp h2
    rcases List.le_iff_lt_or_eq.mp h3 with q | q
    · exact decide_eq_true q
    · exact absurd (PySem.W.str_of_cps q) h1
structure AskInv (w : Wd) (k : Nat) (l : List Ask) : Prop where
  len : l.length ≤ 3
  nd : l.Nodup
  part : ∀ a ∈ l, a.p < k
  name : ∀ a ∈ l, a.t ∈ w.ts.map Trt.n
theorem AskInv.pre {w : Wd} {k : Nat} {l : List Ask} (h : AskInv w k l) : AskPre w (k : Int) (l.mergeSort kLe) where
  len := by rw [List.length_mergeSort]; exact h.len
  part := fun a ha => by
    have := h.part a (List.mem_mergeSort.mp ha)
    omega
  name := fun a ha => h.name a (List.mem_mergeSort.mp ha)
  asc := fun i x y hx hy => by
    have T := PySem.W.sortLe_total (listOrd itemOrd) false (fun b : Ask => PySem.W.keyToks b.D)
    have hp : (l.mergeSort kLe).Pairwise fun a b => kLe a b = true := List.pairwise_mergeSort (fun a b c => T.trans a b c) (fun a b => by
      rw [Bool.or_eq_true]
      exact T.total a b) l
    have hnd : (l.mergeSort kLe).Nodup := (List.mergeSort_perm l kLe).nodup_iff.mpr h.nd
    obtain ⟨a1, a2⟩ := List.getElem?_eq_some_iff.mp hx
    obtain ⟨b1, b2⟩ := List.getElem?_eq_some_iff.mp hy
    have h1 := List.pairwise_iff_getElem.mp hp i (i + 1) a1 b1 (by omega)
    have h2 := List.pairwise_iff_getElem.mp hnd i (i + 1) a1 b1 (by omega)
    rw [a2, b2] at h1 h2
    exact ask_strict h1 h2
theorem AskInv.sort {l : List Ask} : (l.map Ask.D).mergeSort (PySem.W.dataLe false id) = (l.mergeSort kLe).map Ask.D := (List.map_mergeSort (r := kLe) (s := PySem.W.dataLe false id) (f := Ask.D) (l := l) fun a _ b _ => rfl).symm
theorem askD_inj {a b : Ask} (h : a.D = b.D) : a = b := by
  obtain ⟨t, p⟩ := a
  obtain ⟨t', p'⟩ := b
  simp at h
  obtain ⟨h1, h2⟩ := h
  have h3 : p = p' := by omega
  rw [h1, h3]
variable {P : Program} {w : World} {K : PySem.W.Frag} {mg : Str → Option Value} {base : Heap}
abbrev SpInst (K : PySem.W.Frag) (sc : List Int) : Sp := spT1 K sc 20 (.w Wd.D) (fun w => WOk w) (fun w B v => ∃ i : Ins, InsOk w i ∧ Dp K B v i.D)
theorem ok__law_instance (sc : List Int) (hsc : sc.length ≤ 1000) (T : Tb K mg) : FnOk P w K mg base CX0 4 T._law_instance.f T._law_instance.fd ["_law_script", "_law_town_here", "_law_world_here"] (SpInst K sc) :=
  have G__law_draw := ok__law_draw (P := P) (w := w) (base := base) sc hsc T
  have G__law_pick := ok__law_pick (P := P) (w := w) (base := base) sc hsc T
  have G__law_body := ok__law_body (P := P) (w := w) (base := base) sc hsc T
  have G__law_traits := ok__law_traits (P := P) (w := w) (base := base) T
  fnT1 T._law_instance.F sc__law_instance fun cdv A outer s H E hr => ⟨_, (pss_cons (ps_set (i := 3) sc__law_instance.nd rfl (.inl rfl) (pe_call G__law_pick (hr.mono (by omega)) rfl T._law_pick.m T._law_pick.F.kp T._law_pick.b .nil pass0 (pa_cons (vr 0 rfl (.inl rfl)) (pa_cons (vr 1 rfl (.inl rfl)) (pa_cons (pe_call G__law_traits (hr.mono (by omega)) rfl T._law_traits.m T._law_traits.F.kp T._law_traits.b .nil pass0 (pa_cons (vr 2 rfl (.inl rfl)) pa_nil)) pa_nil))))) (pss_cons (ps_asg (pe_call G__law_pick (hr.mono (by omega)) rfl T._law_pick.m T._law_pick.F.kp T._law_pick.b .nil pass0 (pa_cons (vr 0 rfl (.inl rfl)) (pa_cons (vr 1 rfl (.inl rfl)) (pa_cons (pe_callTy call_listA rfl T.g_list (by decide +kernel) (pa_cons (pe_ix (ix_K K rfl) (vr 2 rfl (.inl rfl)) pe_int (fun _ _ => rfl)) pa_nil)) pa_nil)))) (pg_tupK K rfl (n := 2) rfl (pgs_cons (pg_name (i := 4) sc__law_instance.nd rfl (.inl rfl)) (pgs_cons (pg_name (i := 5) sc__law_instance.nd rfl (.inl rfl)) pgs_nil)))) (pss_cons (ps_par (i := 6) (j := 7) rfl sc__law_instance.nd rfl rfl (by decide) rfl rfl (pa_cons (pe_lst pa_nil) (pa_cons (pe_lst pa_nil) pa_nil)) (by rfl)) (pss_cons (ps_for PassesOwn.never rfl (pi_range1 rfl T.g_range (pa_cons (vr 5 rfl (.inl rfl)) pa_nil)) (pg_name (i := 8) sc__law_instance.nd rfl (.inl rfl)) (pss_cons (ps_set (i := 9) sc__law_instance.nd rfl (.inl rfl) (pe_call G__law_pick (hr.mono (by omega)) rfl T._law_pick.m T._law_pick.F.kp T._law_pick.b .nil pass0 (pa_cons (vr 0 rfl (.inl rfl)) (pa_cons (vr 1 rfl (.inl rfl)) (pa_cons (pe_lc (own := [("_law_row", 11)]) rfl sc__law_instance.nd (pi_any (pe_ix (ix_K K rfl) (vr 2 rfl (.inl rfl)) pe_int (fun _ _ => rfl))) (blkOk_by (own := [("_law_row", 11)]) (N := ["_law_script", "_law_town_here", "_law_world_here", "_law_trait", "_law_root", "_law_parts", "_law_limits", "_law_asks", "_law_part", "_law_limit", "_law_name", "_law_row"]) (sc := defScope s__law_instance) (by decide +kernel)) (fun _ _ _ _ _ => (pg_name (i := 11) sc__law_instance.nd rfl (.inl rfl))) (fun _ _ _ _ _ => pts_nil) (fun _ _ _ _ _ => (pe_ix (ix_K K rfl) (vr 11 rfl (.inl rfl)) pe_int (fun _ _ => rfl)))) pa_nil))))) (pss_cons (ps_expr (pe_bm PySem.F.plainAttrs_list PySem.F.slot_list_append PySem.F.type_list_append mt_append (vr 6 rfl (.inl rfl)) (pa_cons (pe_ifExp (pt_cmpR (op_eqK K rfl (hu64 hr)) (pe_call G__law_draw (hr.mono (by omega)) rfl T._law_draw.m T._law_draw.F.kp T._law_draw.b .nil pass0 (pa_cons (vr 0 rfl (.inl rfl)) (pa_cons (vr 1 rfl (.inl rfl)) (pa_cons pe_int pa_nil)))) pe_int (nomark _)) (vr 9 rfl (.inl rfl)) pe_non) pa_nil))) (pss_one (ps_for PassesOwn.never rfl (pi_any (pe_lst (pa_cons (vr 3 rfl (.inl rfl)) (pa_cons (pe_call G__law_pick (hr.mono (by omega)) rfl T._law_pick.m T._law_pick.F.kp T._law_pick.b .nil pass0 (pa_cons (vr 0 rfl (.inl rfl)) (pa_cons (vr 1 rfl (.inl rfl)) (pa_cons (pe_call G__law_traits (hr.mono (by omega)) rfl T._law_traits.m T._law_traits.F.kp T._law_traits.b .nil pass0 (pa_cons (vr 2 rfl (.inl rfl)) pa_nil)) pa_nil)))) pa_nil)))) (pg_name (i := 10) sc__law_instance.nd rfl (.inl rfl)) (pss_one (ps_if (PW.pt (pw_and (pt_cmpR (op_eqK K rfl (hu64 hr)) (pe_call G__law_draw (hr.mono (by omega)) rfl T._law_draw.m T._law_draw.F.kp T._law_draw.b .nil pass0 (pa_cons (vr 0 rfl (.inl rfl)) (pa_cons (vr 1 rfl (.inl rfl)) (pa_cons pe_int pa_nil)))) pe_int (nomark _)) (pw_and (pt_cmpR (op_ninK K rfl (hu65 hr)) (pe_tupF (pa_cons (vr 10 rfl (.inl rfl)) (pa_cons (vr 8 rfl (.inl rfl)) pa_nil))) (vr 7 rfl (.inl rfl)) (by rfl)) (pw_and1 (pt_cmpR (op_ltK K rfl (hu64 hr)) (pe_callB (call_lenK K rfl) rfl T.g_len (by decide +kernel) (pa_cons (vr 7 rfl (.inl rfl)) pa_nil)) pe_int (nomark _)))))) (pss_one (ps_expr (pe_bm PySem.F.plainAttrs_list PySem.F.slot_list_append PySem.F.type_list_append mt_append (vr 7 rfl (.inl rfl)) (pa_cons (pe_tupF (pa_cons (vr 10 rfl (.inl rfl)) (pa_cons (vr 8 rfl (.inl rfl)) pa_nil))) pa_nil)))) pss_nil))))))) (pss_cons (ps_set (i := 7) sc__law_instance.nd rfl (.inl rfl) (pe_callTy call_tupA rfl T.g_tuple (by decide +kernel) (pa_cons (pe_callB (cr_sortD (hu64 hr)) rfl T.g_sorted (by decide +kernel) (pa_cons (vr 7 rfl (.inl rfl)) pa_nil)) pa_nil))) (pss_one (ps_ret (pe_tupF (pa_cons (vr 3 rfl (.inl rfl)) (pa_cons (vr 4 rfl (.inl rfl)) (pa_cons (pe_callTy call_tupA rfl T.g_tuple (by decide +kernel) (pa_cons (vr 6 rfl (.inl rfl)) pa_nil)) (pa_cons (vr 7 rfl (.inl rfl)) (pa_cons (pe_call G__law_body (hr.mono (by omega)) rfl T._law_body.m T._law_body.F.kp T._law_body.b .nil pass0 (pa_cons (vr 0 rfl (.inl rfl)) (pa_cons (vr 1 rfl (.inl rfl)) (pa_cons (vr 2 rfl (.inl rfl)) (pa_cons (vr 3 rfl (.inl rfl)) (pa_cons (vr 5 rfl (.inl rfl)) (pa_cons (vr 7 rfl (.inl rfl)) pa_nil))))))) pa_nil))))))))))))), fun w hw F n hF hn => by
    walk_at "go"
    have hrow := hw.rows
    have hc4 := hrow.c4
    have hts := hw.n3
    have hts1 := hw.n1
    have hpre := hw.wd.pre
    refine run_seq (run_asgX (p := fun d => ∃ t, t ∈ w.ts.map Trt.n ∧ d = .str t) ((run_pick hF rfl rfl (by omega) (RunV.toE (run_call1 (x1 := w) (rp_w rfl) (by omega))) (by rw [List.length_map, List.length_map]; omega) (by rw [List.length_map, List.length_map]; omega)).imp fun d hd => ?_) ?_)
    · obtain ⟨t, ht, rfl⟩ := List.mem_map.mp hd
      exact ⟨t, ht, rfl⟩
    rintro d ⟨tr, htr, rfl⟩
    refine run_seq (run_asgXG (vs := [4, 5]) (run_pick hF rfl rfl (by omega) (RunL.toE (run_listT (run_a (run_op (run_wld rfl) run_int (opd_ixT rfl)) run_a0))) (by rw [List.length_map]; exact hrow.c1) (by rw [List.length_map]; omega)) fun x hx => ?_)
    obtain ⟨c, hc, rfl⟩ := List.mem_map.mp hx
    have hck := hrow.k2 c hc
    refine ⟨_, rung2, ?_⟩
    change RunS K F _ [some (.d (scD sc)), some (.twn (n + 2)), some (.wld w.D), some (.d (.str tr)), some (.d (.str c.n)), some (.d (.int (c.k : Int))), none, none, none, none, none, none] _
    refine run_seq (run_par2L (by decide) (run_lst run_a0 (by simp)) (run_lst run_a0 (by simp)) ?_)
    change RunS K F _ [some (.d (scD sc)), some (.twn (n + 2)), some (.wld w.D), some (.d (.str tr)), some (.d (.str c.n)), some (.d (.int (c.k : Int))), some (.own []), some (.own []), none, none, none, none] _
    refine run_seq (run_forI (vs := [8]) (n := n + 2) (fun (i : Nat) => PyData.int (i : Int)) (fun l => l = List.range c.k) (fun l i r0 => ∃ (lims : List (Option Str)) (asks : List Ask), lims.length = i ∧ (∀ x, some x ∈ lims → ∃ k, (⟨x, k⟩ : Con) ∈ w.cs) ∧ AskInv w c.k asks ∧ r0 = [some (.d (scD sc)), some (.twn (n + 2 + 5 * i)), some (.wld w.D), some (.d (.str tr)), some (.d (.str c.n)), some (.d (.int (c.k : Int))), some (.own (lims.map limD)), some (.own (asks.map Ask.D)), none, none, none, none])
      ((rix_pure (n := n + 2) (runi_rngM (run_a (run_var rfl) run_a0) (by omega)) rfl).imp fun ds e => ⟨_, e, rfl⟩) ?_ ?_ ?_)
    · rintro l rfl
      exact ⟨_, ⟨[], [], rfl, fun x h => (by cases h), ⟨by decide, .nil, fun a h => (by cases h), fun a h => (by cases h)⟩, rfl⟩, by walk_at "le"⟩
    · rintro l rfl i y r0 hy ⟨lims, asks, hl, hlx, hA, rfl⟩
      have hjk : y = i ∧ i < c.k := by
        obtain ⟨h1, h2⟩ := List.getElem?_eq_some_iff.mp hy
        rw [List.length_range] at h1
        rw [List.getElem_range] at h2
        exact ⟨h2.symm, h1⟩
      obtain ⟨rfl, hik⟩ := hjk
      refine ⟨_, rung_name (by decide), ?_⟩
      change RunS K F _ [some (.d (scD sc)), some (.twn (n + 2 + 5 * y)), some (.wld w.D), some (.d (.str tr)), some (.d (.str c.n)), some (.d (.int (c.k : Int))), some (.own (lims.map limD)), some (.own (asks.map Ask.D)), some (.d (.int (y : Int))), none, none, none] _
      have hcn : RunE K F (tLc (iAny K (tOp (rIx K) (tVar 2) (tC (.int 0)))) (gName 11) tYes (tOp (rIx K) (tVar 11) (tC (.int 0))) [11]) [some (.d (scD sc)), some (.twn (n + 2 + 5 * y)), some (.wld w.D), some (.d (.str tr)), some (.d (.str c.n)), some (.d (.int (c.k : Int))), some (.own (lims.map limD)), some (.own (asks.map Ask.D)), some (.d (.int (y : Int))), none, none, none] (.list (w.cs.map fun c => .str c.n)) :=
        RunL.toE (run_lc0 (vs := [11]) w.cs Con.D (fun c => .str c.n) (runi_tup (run_op (run_wld rfl) run_int (opd_ixT rfl))) (by omega) fun k c hc => ⟨_, rung_name (by decide), run_op (run_var rfl) run_int (opd_ixT rfl)⟩)
      refine run_seq (run_asgX (p := fun d => ∃ x, (∃ k, (⟨x, k⟩ : Con) ∈ w.cs) ∧ d = .str x) ((run_pick hF rfl rfl (by omega) hcn (by rw [List.length_map]; exact hrow.c1) (by rw [List.length_map]; omega)).imp fun d hd => ?_) ?_)
      · obtain ⟨c', hc', rfl⟩ := List.mem_map.mp hd
        exact ⟨c'.n, ⟨c'.k, hc'⟩, rfl⟩
      rintro d ⟨lx, hlx2, rfl⟩
      change RunS K F _ [some (.d (scD sc)), some (.twn (n + 2 + 5 * y + 1)), some (.wld w.D), some (.d (.str tr)), some (.d (.str c.n)), some (.d (.int (c.k : Int))), some (.own (lims.map limD)), some (.own (asks.map Ask.D)), some (.d (.int (y : Int))), some (.d (.str lx)), none, none] _
      refine run_seq (run_appendX (j := 6) (ds := lims.map limD) (n := n + 2 + 5 * y + 2) (p := fun d => ∃ lo : Option Str, (∀ x, lo = some x → ∃ k, (⟨x, k⟩ : Con) ∈ w.cs) ∧ d = limD lo) rfl (by rw [List.length_map]; omega) (rd_if (q := fun _ => True) (n1 := n + 2 + 5 * y + 2) (rdt_draw0 (l := 4) hF rfl rfl rfl (RunE.is run_int rfl) (by decide) (by decide) (by omega)) (fun _ => (rd_pure (run_var (d := .str lx) rfl) rfl).imp fun d e => ⟨some lx, fun x e => by cases e; exact hlx2, e⟩) (fun _ => (rd_pure run_non rfl).imp fun d e => ⟨none, fun x e => (by cases e), e⟩)) ?_)
      rintro d ⟨lo, hlo, rfl⟩
      have el : lims.map limD ++ [limD lo] = (lims ++ [lo]).map limD := by rw [List.map_append]; rfl
      rw [el]
      change RunS K F _ [some (.d (scD sc)), some (.twn (n + 2 + 5 * y + 2)), some (.wld w.D), some (.d (.str tr)), some (.d (.str c.n)), some (.d (.int (c.k : Int))), some (.own ((lims ++ [lo]).map limD)), some (.own (asks.map Ask.D)), some (.d (.int (y : Int))), some (.d (.str lx)), none, none] _
      refine run_forI (vs := [10]) (n := n + 2 + 5 * y + 3) PyData.str (fun l => ∃ a b : Str, a ∈ w.ts.map Trt.n ∧ b ∈ w.ts.map Trt.n ∧ l = [a, b]) (fun l j r0 => ∃ asks : List Ask, AskInv w c.k asks ∧ r0 = [some (.d (scD sc)), some (.twn (n + 2 + 5 * y + 3 + j)), some (.wld w.D), some (.d (.str tr)), some (.d (.str c.n)), some (.d (.int (c.k : Int))), some (.own ((lims ++ [lo]).map limD)), some (.own (asks.map Ask.D)), some (.d (.int (y : Int))), none, none, none])
        (rix_lst (rd_lst (rda_cons (rd_pure (run_var rfl) rfl) (rda_cons (run_pick hF rfl rfl (by omega) (RunV.toE (run_call1 (x1 := w) (rp_w rfl) (by omega))) (by rw [List.length_map, List.length_map]; omega) (by rw [List.length_map, List.length_map]; omega)) (rda_nil rfl))) ?_) ?_) ?_ ?_ ?_
      · rintro ds ⟨a, l, rfl, _, b, l', rfl, _, rfl⟩
        simp
      · rintro d ⟨ds, ⟨a, l, rfl, rfl, b, l', rfl, hb, rfl⟩, rfl⟩
        obtain ⟨t, ht, rfl⟩ := List.mem_map.mp hb
        exact ⟨_, rfl, [tr, t], rfl, tr, t, htr, ht, rfl⟩
      · rintro l ⟨a, b, ha, hb, rfl⟩
        exact ⟨_, ⟨asks, hA, rfl⟩, by walk_at "le"⟩
      · rintro l ⟨a, b, ha, hb, rfl⟩ j x r0 hx ⟨asks, hA, rfl⟩
        have hj2 : j < 2 := (List.getElem?_eq_some_iff.mp hx).1
        have hxn : x ∈ w.ts.map Trt.n := by
          have := List.mem_of_getElem? hx
          have : x = a ∨ x = b := by simpa using this
          rcases this with rfl | rfl <;> assumption
        refine ⟨_, rung_name (by decide), ?_⟩
        change RunS K F _ [some (.d (scD sc)), some (.twn (n + 2 + 5 * y + 3 + j)), some (.wld w.D), some (.d (.str tr)), some (.d (.str c.n)), some (.d (.int (c.k : Int))), some (.own ((lims ++ [lo]).map limD)), some (.own (asks.map Ask.D)), some (.d (.int (y : Int))), none, some (.d (.str x)), none] _
        have hxok : NmOk x := by
          obtain ⟨z, hz, e⟩ := List.mem_map.mp hxn
          rw [← e]
          exact (hpre.ts.lay z hz).1
        have hsa : Sh 1 (⟨x, y⟩ : Ask).D := .tup (ShA.cons (.str hxok) (ShA.cons .int ShA.nil))
        have hsl : Sh 2 (.list (asks.map Ask.D)) := .lst (ShA.map fun a ha => .tup (ShA.cons (.str (by
          obtain ⟨z, hz, e⟩ := List.mem_map.mp (hA.name a ha)
          rw [← e]
          exact (hpre.ts.lay z hz).1)) (ShA.cons .int ShA.nil)))
        have hlen := hA.len
        refine run_ifX (n := n + 2 + 5 * y + 3 + j + 1) (q := fun b => b = true → (⟨x, y⟩ : Ask) ∉ asks ∧ asks.length < 3) (rdt_and (q := fun _ => True) (q2 := fun b => b = true → (⟨x, y⟩ : Ask) ∉ asks ∧ asks.length < 3) (rdt_draw0 (l := 2) hF rfl rfl rfl (RunE.is run_int rfl) (by decide) (by decide) (by omega)) (fun _ => (rdt_pure (test_borrow 7 rfl (test_and (test_op (a := (⟨x, y⟩ : Ask).D) (b := .list (asks.map Ask.D)) (run_tupF (run_a (run_var rfl) (run_a (run_var rfl) run_a0)) (by simp)) (run_var rfl) (opb_inDT hsa.shaped hsl.shaped)) fun _ => test_op (run_cb (run_a (run_var rfl) run_a0) call_lenL) run_int opb_ltI)) rfl).imp ?_) (Nat.le_refl _) (fun z => nomatch z) (fun b h => h)) (fun hq => ?_) (fun _ => run_next ?_)
        · intro b e hb
          rw [e, Bool.and_eq_true] at hb
          obtain ⟨q1, q2⟩ := hb
          refine ⟨fun hm => ?_, ?_⟩
          · have : ((asks.map Ask.D).any fun z => PyData.eqv z (⟨x, y⟩ : Ask).D) = true := by
              rw [List.any_eq_true]
              exact ⟨_, List.mem_map_of_mem hm, (eqv_iff _ _ rfl rfl).mpr rfl⟩
            rw [this] at q1
            cases q1
          · have := of_decide_eq_true q2
            rw [List.length_map] at this
            omega
        · obtain ⟨q1, q2⟩ := hq rfl
          refine run_append (i := 7) (ds := asks.map Ask.D) (d := (⟨x, y⟩ : Ask).D) rfl (by rw [List.length_map]; omega) (run_tupF (run_a (run_var rfl) (run_a (run_var rfl) run_a0)) (by simp)) ?_
          refine ⟨_, ⟨asks ++ [⟨x, y⟩], ⟨by rw [List.length_append]; simp; omega, ?_, fun a ha => ?_, fun a ha => ?_⟩, rfl⟩, ?_⟩
          · rw [List.nodup_append]
            refine ⟨hA.nd, by simp, fun a ha b hb e => ?_⟩
            have : b = ⟨x, y⟩ := by simpa using hb
            subst this
            exact q1 (e ▸ ha)
          · rcases List.mem_append.mp ha with q | q
            · exact hA.part a q
            · have : a = ⟨x, y⟩ := by simpa using q
              subst this
              exact hik
          · rcases List.mem_append.mp ha with q | q
            · exact hA.name a q
            · have : a = ⟨x, y⟩ := by simpa using q
              subst this
              exact hxn
          · have e : (asks ++ [(⟨x, y⟩ : Ask)]).map Ask.D = asks.map Ask.D ++ [(⟨x, y⟩ : Ask).D] := by rw [List.map_append]; rfl
            rw [e]
            walk_at "le"
        · exact ⟨_, ⟨asks, hA, rfl⟩, by walk_at "leT"⟩
      · rintro l r0 ⟨a, b, ha, hb, rfl⟩ ⟨asks, hA, rfl⟩
        refine ⟨_, ⟨lims ++ [lo], asks, by rw [List.length_append, hl]; rfl, fun x hx => ?_, hA, rfl⟩, ?_⟩
        · rcases List.mem_append.mp hx with q | q
          · exact hlx x q
          · have : some x = lo := by simpa using q
            exact hlo x this.symm
        · have e : n + 2 + 5 * (y + 1) = n + 2 + 5 * y + 3 + [a, b].length := by simp; omega
          rw [e]
          walk_at "le"
    · rintro l r0 rfl ⟨lims, asks, hl, hlx, hA, rfl⟩
      rw [List.length_range] at hl ⊢
      refine run_freeze 7 rfl ?_
      refine run_asgq (d := asksD (asks.mergeSort kLe)) (RunE.is (run_tupL (run_a (RunL.toE (run_sorted (run_a (run_var rfl) run_a0) (PySem.W.AllAlike.of fun a b => by simp [PySem.W.alike, PySem.W.alikeAll]) (PySem.W.Sortable.tuples fun b => ⟨_, _, rfl⟩) (fun d hd => ?_))) run_a0)) (by rw [AskInv.sort])) ?_
      · obtain ⟨a, _, rfl⟩ := List.mem_map.mp hd
        simp [PyData.depth, PyData.depthAll]
      refine run_freeze 6 rfl ?_
      change RunS K F _ [some (.d (scD sc)), some (.twn (n + 2 + 5 * c.k)), some (.wld w.D), some (.d (.str tr)), some (.d (.str c.n)), some (.d (.int (c.k : Int))), some (.d (.list (lims.map limD))), some (.d (asksD (asks.mergeSort kLe))), none, none, none, none] _
      refine run_retX (rd_tup (rda_cons (rd_pure (run_var rfl) rfl) (rda_cons (rd_pure (run_var rfl) rfl) (rda_cons (rd_pure (run_tupL (run_a (run_var rfl) run_a0)) rfl) (rda_cons (rd_pure (run_var rfl) rfl) (rda_cons (pa := fun d => BodyOk w tr c.k d) (RunX.imp (run_callT4 (x3 := w) (x4 := tr) (x5 := c.k) (x6 := asks.mergeSort kLe) hF rfl rfl (rp_w rfl) (rp_d (run_var rfl)) (rp_d (run_var rfl)) (rp_d (run_var rfl)) (by omega) ⟨hw, htr, hck, hA.pre⟩) fun B v h => h) (rda_nil rfl)))))) ?_) fun B v ⟨d, ⟨ds, hds, e7⟩, dv⟩ => ⟨⟨_, rfl, by omega⟩, ?_⟩
      · rintro ds ⟨a1, l1, rfl, _, a2, l2, rfl, _, a3, l3, rfl, _, a4, l4, rfl, _, a5, l5, rfl, _, rfl⟩
        simp
      · subst e7
        obtain ⟨a1, l1, rfl, rfl, a2, l2, rfl, rfl, a3, l3, rfl, rfl, a4, l4, rfl, rfl, a5, l5, rfl, hb, rfl⟩ := hds
        refine ⟨⟨tr, c.n, lims, asks.mergeSort kLe, a5⟩, ⟨htr, ?_, (by show lims.length ≤ 2; omega), hlx, ?_, ?_⟩, dv⟩
        · rw [hl]
          exact hc
        · rw [hl]
          exact hA.pre
        · rw [hl]
          exact hb⟩
end Ts
set_option Elab.async false
set_option linter.all false
set_option maxRecDepth 100000
set_option maxHeartbeats 2000000
namespace Ts
open PySem PySem.Spec PyProof.Rows L2
local macro_rules | `(tactic| walk_at "go") => `(tactic| simp only [cxK, cxK2, List.map_cons, List.map_nil, List.length_cons, List.length_nil, List.replicate, List.cons_append, List.nil_append, List.append_nil, Pk.ent, Nat.reduceAdd, Nat.reduceSub])
local macro_rules | `(tactic| walk_at "rfl") => `(tactic| with_unfolding_all exact rfl)
local macro_rules | `(tactic| walk_at "op") => `(tactic| with_reducible first
  | exact opd_plusI | exact opd_sub | exact opd_mod (by decide) | exact opb_eqI | exact opb_neI | exact opb_eqS | exact opb_neS | exact opb_eqB | exact opb_neB
  | exact opb_leI | exact opb_gtI | exact opb_geI | exact opb_ltI | exact opb_ltS | exact opb_isN | exact opb_notN | exact opb_inSgF | exact opb_inSLF | exact opb_inSTF | exact opb_inSLT | exact opb_inSTT | exact opb_inS2F | exact opb_inS2T
  | (apply opd_ixT; try walk_at "ix") | (apply opd_ixL; try walk_at "ix") | (apply opd_ixS; rotate_left; try walk_at "ix"; rotate_right) | apply opd_plusT | apply opd_mul | apply opd_div | apply opd_pow)
local macro_rules | `(tactic| walk_at "opD") => `(tactic| with_reducible first
  | walk_at "op" | (apply OpB.toD; walk_at "op"))
local macro_rules | `(tactic| walk_at "call") => `(tactic| with_reducible first
  | apply run_call1 | apply run_call2 | apply run_call3 | apply run_call4 | apply run_call5)
local macro_rules | `(tactic| walk_at "kit") => `(tactic| with_unfolding_all first | exact kit_ii | exact kit_ib | exact kit_ss | exact kit_st | exact kit_ts | exact kit_tt | exact kit_it | exact kit_ns)
local macro_rules | `(tactic| walk_at "ix") => `(tactic| first | exact atI_zero | exact atI_one | assumption | (with_unfolding_all exact rfl))
local macro_rules | `(tactic| walk_at "e") => `(tactic| with_reducible first
  | exact run_int | exact run_str | exact run_bl | exact run_non
  | (apply run_var; walk_at "rfl") | (apply run_wld; walk_at "rfl")
  | exact run_a0 | apply run_a
  | apply run_op | apply run_isi | apply run_chain | apply run_not | apply run_neg
  | apply run_tupF | apply run_tail | apply run_slT | apply run_slS | exact runo_none | apply runo_some
  | apply run_cb | exact call_lenT | exact call_lenL | apply call_lenS | exact call_max
  | (apply rp_w; walk_at "rfl") | apply rp_d
  | walk_at "call" | (apply RunV.toD; walk_at "call") | (apply RunV.toE; walk_at "call")
  | apply test_of | apply test_B | apply test_not
  | exact trivial
  | (apply run_dget1I; apply run_tab; walk_at "rfl") | (apply run_dgetI; apply run_tab; walk_at "rfl") | (apply run_dgetI; apply run_varD; walk_at "rfl")
  | walk_at "kit"
  | (show _ = some _; assumption)
  | walk_at "opD")
local macro_rules | `(tactic| walk_at "es") => `(tactic| repeat' (first | walk_at "e"))
local macro_rules | `(tactic| walk_at "k") => `(tactic| with_reducible first
  | apply test_orF | apply test_andT | apply test_notT | apply test_notF
  | apply run_andT | apply run_orF)
local macro_rules | `(tactic| walk_at "kl") => `(tactic| with_reducible first | (apply RunT.is; apply test_of) | (apply RunT.is; apply test_B) | apply RunE.is)
local macro_rules | `(tactic| walk_at "side") => `(tactic| first | assumption | (apply decide_eq_false; assumption) | (apply decide_eq_true; assumption) | (with_unfolding_all exact rfl) | (simp; done) | (apply congrArg PyData.bool; assumption) | (simp [*]; done))
local macro_rules | `(tactic| walk_at "ks") => `(tactic| ((repeat' (first | walk_at "k")); (all_goals (try walk_at "kl")); (repeat' (first | walk_at "e")); (all_goals (try walk_at "side"))))
local macro_rules | `(tactic| walk_at "le") => `(tactic| repeat' (first | exact Le.nil | apply Le.keep | apply Le.drop))
local macro_rules | `(tactic| walk_at "leT") => `(tactic| ((repeat' (first | exact Le.nil | apply Le.keep | apply Le.twn | apply Le.drop)); (all_goals (try omega))))

variable {P : Program} {w : World} {K : PySem.W.Frag} {mg : Str → Option Value} {base : Heap}
abbrev SpSet (K : PySem.W.Frag) (sc : List Int) : Sp := spT2 K sc 200 (.w Wd.D) (.d (fun (k : Nat) => .int (k : Int))) (fun w m => WOk w ∧ m ≤ 6) (fun w m B v => ∃ S : List Ins, S.length ≤ m ∧ (∀ i ∈ S, InsOk w i) ∧ Dp K B v (setD S))
theorem ok__law_set (sc : List Int) (hsc : sc.length ≤ 1000) (T : Tb K mg) : FnOk P w K mg base CX0 5 T._law_set.f T._law_set.fd ["_law_script", "_law_town_here", "_law_world_here", "_law_most"] (SpSet K sc) :=
  have G__law_draw := ok__law_draw (P := P) (w := w) (base := base) sc hsc T
  have G__law_instance := ok__law_instance (P := P) (w := w) (base := base) sc hsc T
  fnT2 T._law_set.F sc__law_set fun cdv A outer s H E hr => ⟨_, (pss_one (ps_ret (pe_callTy call_tupA rfl T.g_tuple (by decide +kernel) (pa_cons (pe_lc (own := [("_law_k", 4)]) rfl sc__law_set.nd (pi_range1 rfl T.g_range (pa_cons (pe_call G__law_draw (hr.mono (by omega)) rfl T._law_draw.m T._law_draw.F.kp T._law_draw.b .nil pass0 (pa_cons (vr 0 rfl (.inr (.inl rfl))) (pa_cons (vr 1 rfl (.inr (.inl rfl))) (pa_cons (pe_op (op_plusK K rfl) (vr 3 rfl (.inl rfl)) pe_int) pa_nil)))) pa_nil)) (blkOk_by (own := [("_law_k", 4)]) (N := ["_law_script", "_law_town_here", "_law_world_here", "_law_most", "_law_k"]) (sc := defScope s__law_set) (by decide +kernel)) (fun _ _ _ _ _ => (pg_name (i := 4) sc__law_set.nd rfl (.inl rfl))) (fun _ _ _ _ _ => pts_nil) (fun _ _ _ _ _ => (pe_call G__law_instance (hr.mono (by omega)) rfl T._law_instance.m T._law_instance.F.kp T._law_instance.b .nil pass0 (pa_cons (vr 0 rfl (.inr (.inl rfl))) (pa_cons (vr 1 rfl (.inr (.inl rfl))) (pa_cons (vr 2 rfl (.inr (.inl rfl))) pa_nil)))))) pa_nil)))), fun w m ⟨hw, hm⟩ F n hF hn => by
    walk_at "go"
    refine run_retX (n := n + 200) (P := fun B v => ∃ d, (∃ S : List Ins, (S.length ≤ m ∧ ∀ i ∈ S, InsOk w i) ∧ d = setD S) ∧ Dp K B v d) (rd_cb (RunDA.imp (rda_cons (rd_lc (vs := [4]) (fun (i : Nat) => PyData.int (i : Int)) (fun l => ∃ k, k ≤ m ∧ l = List.range k) Ins.D (fun l j zs => (zs.length = j ∧ j ≤ l.length) ∧ ∀ i ∈ zs, InsOk w i) (fun j => n + 1 + 20 * j) (n + 200)
      ((rix_rng (n := n + 1) (pn := fun k => k ≤ m) (RunDA.imp (rda_cons (rd_draw (l := m + 1) hF rfl rfl (RunE.is (run_op (run_var rfl) run_int opd_plusI) (by simp)) (by omega) (by omega) (by omega)) (rda_nil rfl)) ?_)).imp fun ds ⟨k, hk, e⟩ => ⟨_, e, k, hk, rfl⟩).toT ?_ ?_ ?_ ?_ ?_) (rda_nil rfl)) (pl' := fun l => ∃ S : List Ins, (S.length ≤ m ∧ ∀ i ∈ S, InsOk w i) ∧ l = [.list (S.map Ins.D)]) ?_) ?_) fun B v ⟨d, ⟨S, ⟨h1, h2⟩, e⟩, dv⟩ => ⟨⟨_, rfl, Nat.le_refl _⟩, S, h1, h2, e ▸ dv⟩
    · rintro l ⟨a, l', rfl, ⟨z, rfl, z1, z2⟩, rfl⟩
      exact ⟨z.toNat, by rw [Int.toNat_of_nonneg z1], by omega, by omega⟩
    · rintro l ⟨k, hk, rfl⟩
      exact ⟨⟨rfl, Nat.zero_le _⟩, fun i h => (by cases h)⟩
    · exact Nat.le_refl _
    · rintro l ⟨k, hk, rfl⟩
      rw [List.length_range]
      omega
    · rintro l ⟨k, hk, rfl⟩ j zs ⟨⟨h1, h2⟩, _⟩
      rw [List.length_range] at h2
      omega
    · rintro l ⟨k, hk, rfl⟩ j y zs hy ⟨⟨h1, h2⟩, h3⟩
      have hj := (List.getElem?_eq_some_iff.mp hy).1
      have hjk : j < k := by rw [List.length_range] at hj; exact hj
      refine ⟨_, n + 1 + 20 * j, fun b => b = true, rung_name (by decide), rdt_pure test_yes rfl, (fun z => nomatch z), fun _ => ?_⟩
      refine RunX.imp (RunX.up (run_callT1 (x3 := w) hF rfl rfl (rp_w rfl) (by omega) hw) (by omega)) fun B v ⟨i, hi, dv⟩ => ⟨i, dv, ⟨by rw [List.length_append, h1]; rfl, hj⟩, fun x hx => ?_⟩
      rcases List.mem_append.mp hx with q | q
      · exact h3 x q
      · have : x = i := by simpa using q
        subst this
        exact hi
    · rintro l ⟨a, b, rfl, ⟨l', zs, ⟨k, hk, rfl⟩, ⟨⟨h1, h2⟩, h3⟩, rfl⟩, rfl⟩
      rw [List.length_range] at h1
      exact ⟨zs, ⟨by omega, h3⟩, rfl⟩
    · rintro l ⟨S, hS, rfl⟩
      exact ⟨_, call_tupL, S, hS, rfl⟩⟩
theorem InsOk.set {w : Wd} (hw : WOk w) {S : List Ins} (h : ∀ i ∈ S, InsOk w i) (hl : S.length ≤ 8) : SetOk w S ∧ SetP S := ⟨⟨hw.wd, hl, h⟩, by omega, fun i hi => (h i hi).inp hw.wd.pre hw.rows.nm⟩
abbrev SpLLoose (K : PySem.W.Frag) (sc : List Int) : Sp := spT1 K sc 200 (.w Wd.D) (fun w => WOk w) (fun w B v => ∃ S : List Ins, S.length ≤ 6 ∧ (∀ i ∈ S, InsOk w i) ∧ Loose S ∧ Dp K B v (setD S))
theorem ok__law_loose (sc : List Int) (hsc : sc.length ≤ 1000) (T : Tb K mg) : FnOk P w K mg base CX0 14 T._law_loose.f T._law_loose.fd ["_law_script", "_law_town_here", "_law_world_here"] (SpLLoose K sc) :=
  have G__law_set := ok__law_set (P := P) (w := w) (base := base) sc hsc T
  have G_tangles := ok_tangles (P := P) (w := w) (base := base) T
  fnT1 T._law_loose.F sc__law_loose fun cdv A outer s H E hr => ⟨_, (pss_cons (ps_set (i := 3) sc__law_loose.nd rfl (.inl rfl) (pe_tupF pa_nil)) (pss_cons (ps_for PassesOwn.never rfl (pi_any (pe_call G__law_set (hr.mono (by omega)) rfl T._law_set.m T._law_set.F.kp T._law_set.b .nil pass0 (pa_cons (vr 0 rfl (.inl rfl)) (pa_cons (vr 1 rfl (.inl rfl)) (pa_cons (vr 2 rfl (.inl rfl)) (pa_cons pe_int pa_nil)))))) (pg_name (i := 4) sc__law_loose.nd rfl (.inl rfl)) (pss_one (ps_if (pt_cmpR (op_eqK K rfl (hu64 hr)) (pe_call G_tangles (hr.mono (by omega)) rfl T.tangles.m T.tangles.F.kp T.tangles.b .nil pass0 (pa_cons (vr 2 rfl (.inl rfl)) (pa_cons (pe_op (op_plusK K rfl) (vr 3 rfl (.inl rfl)) (pe_tupF (pa_cons (vr 4 rfl (.inl rfl)) pa_nil))) pa_nil))) (pe_tupF pa_nil) (nomark _)) (pss_one (ps_set (i := 3) sc__law_loose.nd rfl (.inl rfl) (pe_op (op_plusK K rfl) (vr 3 rfl (.inl rfl)) (pe_tupF (pa_cons (vr 4 rfl (.inl rfl)) pa_nil))))) pss_nil))) (pss_one (ps_ret (vr 3 rfl (.inl rfl)))))), fun w hw F n hF hn => by
    walk_at "go"
    refine run_asgq (d := setD []) (RunE.is (run_tupF run_a0 (by simp)) rfl) ?_
    refine run_seq (run_forI (vs := [4]) (n := n + 200) Ins.D (fun l => l.length ≤ 6 ∧ ∀ i ∈ l, InsOk w i) (fun l i r0 => ∃ S : List Ins, S.length ≤ i ∧ (∀ x ∈ S, InsOk w x) ∧ Loose S ∧ r0 = [some (.d (scD sc)), some (.twn (n + 200)), some (.wld w.D), some (.d (setD S)), none])
      (rix_tup (p := fun d => ∃ S : List Ins, (S.length ≤ 6 ∧ ∀ i ∈ S, InsOk w i) ∧ d = setD S) (RunX.imp (run_callT2 (x3 := w) (x4 := 6) hF rfl rfl (rp_w rfl) (rp_d (RunE.is run_int rfl)) (by omega) ⟨hw, Nat.le_refl _⟩) fun B v ⟨S, h1, h2, dv⟩ => ⟨_, ⟨S, ⟨h1, h2⟩, rfl⟩, dv⟩) fun d ⟨S, hS, e⟩ => ⟨_, e, S, rfl, hS⟩) ?_ ?_ ?_)
    · rintro l hl
      exact ⟨_, ⟨[], Nat.le_refl _, fun x h => (by cases h), rfl, rfl⟩, by walk_at "le"⟩
    · rintro l ⟨hl6, hlo⟩ i x r0 hx ⟨S, h1, h2, h3, rfl⟩
      have hil := (List.getElem?_eq_some_iff.mp hx).1
      have hxo := hlo x (List.mem_of_getElem? hx)
      refine ⟨_, rung_name (by decide), ?_⟩
      change RunS K F _ [some (.d (scD sc)), some (.twn (n + 200)), some (.wld w.D), some (.d (setD S)), some (.d x.D)] _
      have hS' : ∀ y ∈ S ++ [x], InsOk w y := fun y hy => by
        rcases List.mem_append.mp hy with q | q
        · exact h2 y q
        · have : y = x := by simpa using q
          subst this
          exact hxo
      have hcat : RunE K F (tOp (rPlus K) (tVar 3) (tTupF (tCons (tVar 4) tNil))) [some (.d (scD sc)), some (.twn (n + 200)), some (.wld w.D), some (.d (setD S)), some (.d x.D)] (setD (S ++ [x])) :=
        RunE.is (run_op (run_var rfl) (run_tupF (run_a (run_var rfl) run_a0) (by simp)) (opd_plusT (by rw [List.length_map]; simp; omega))) (by show PyData.tuple (S.map Ins.D ++ [x.D]) = .tuple ((S ++ [x]).map Ins.D); rw [List.map_append]; rfl)
      refine run_iff (k := (pairsOf tangB (S ++ [x])).isEmpty) (RunT.is (test_op (RunV.toD (run_call2 (x1 := w) (x2 := S ++ [x]) (rp_w rfl) (rp_d hcat) (InsOk.set hw hS' (by rw [List.length_append]; simp; omega)))) (run_tupF run_a0 (by simp)) (opb_eqD (Sh.tup (m := 1) (ShA.map fun y _ => .tup (ShA.cons .int (ShA.cons .int ShA.nil)))).shaped (Sh.tup (m := 0) ShA.nil).shaped)) ?_) (fun hk => ?_) (fun hk => run_next ?_)
      · cases pairsOf tangB (S ++ [x]) <;> simp [PyData.eqv, PyData.eqvAll]
      · refine run_asg hcat ⟨_, ⟨S ++ [x], by rw [List.length_append]; simp; omega, hS', List.isEmpty_iff.mp hk, rfl⟩, by walk_at "le"⟩
      · exact ⟨_, ⟨S, by omega, h2, h3, rfl⟩, by walk_at "le"⟩
    · rintro l r0 ⟨hl6, hlo⟩ ⟨S, h1, h2, h3, rfl⟩
      exact run_ret (run_var rfl) fun B v dv => ⟨⟨_, rfl, Nat.le_refl _⟩, S, by omega, h2, h3, dv⟩⟩
/-! ### the law -/
theorem optV (a : Option Nat) : ∃ v, toV (optD a) = some v := by cases a <;> exact ⟨_, rfl⟩
theorem opb_neO {a b : Option Nat} : OpB K (rNeA K) (optD a) (optD b) (!decide (a = b)) := by
  cases a with
  | none =>
    cases b with
    | none => exact (opb_neV (a := .none) (b := .none) rfl rfl rfl).is (by simp)
    | some b => exact (opb_neV (a := .none) (b := .int (b : Int)) rfl rfl rfl).is (by simp)
  | some a =>
    cases b with
    | none => exact (opb_neV (a := .int (a : Int)) (b := .none) rfl rfl rfl).is (by simp)
    | some b => exact (opb_neV (a := .int (a : Int)) (b := .int (b : Int)) rfl rfl rfl).is (by simp [Int.ofNat_inj])
theorem opb_isO {a : Option Nat} : OpB K rIsNn (optD a) .none (decide (a = none)) := by
  cases a with
  | none => exact opb_isN.is (by simp)
  | some a => exact (opb_isNV (k := true) (by simp [optD])).is (by simp)
theorem Rk.nb_D : ∀ x : Rk, nb x.D = true
  | .num n => rfl
  | .mark => rfl
  | .plus a b => by simp [Rk.D, nb, nbAll, Rk.nb_D a, Rk.nb_D b]
  | .times a b => by simp [Rk.D, nb, nbAll, Rk.nb_D a, Rk.nb_D b]
  | .tell t p => rfl
theorem InsOk.nb {w : Wd} {i : Ins} (h : InsOk w i) : nb i.D = true := by
  obtain ⟨it, ir, il, ia, ib⟩ := i
  have h1 : Ts.nb (.tuple (il.map limD)) = true := by
    rw [Ts.nb]
    exact nbAll_of fun x hx => by
      obtain ⟨y, _, rfl⟩ := List.mem_map.mp hx
      exact nb_lim y
  have h2 : Ts.nb (.tuple (ia.map Ask.D)) = true := by
    rw [Ts.nb]
    exact nbAll_of fun x hx => by
      obtain ⟨y, _, rfl⟩ := List.mem_map.mp hx
      rfl
  have h3 : Ts.nb ib = true := by
    cases h.b with
    | tell _ _ => exact Rk.nb_D _
    | @make x l _ _ _ _ =>
      rw [Ts.nb, nbAll, nbAll, Rk.nb_D]
      rw [nbAll_of fun x hx => by
        obtain ⟨y, _, rfl⟩ := List.mem_map.mp hx
        simp [Ts.nb, nbAll, Rk.nb_D]]
      rfl
  show Ts.nb (.tuple [.str it, .str ir, .tuple (il.map limD), .tuple (ia.map Ask.D), ib]) = true
  simp only [Ts.nb, nbAll] at h1 h2 ⊢
  rw [h1, h2, h3]
  rfl
def spLaw (K : PySem.W.Frag) : Sp := fun vs H Q _ => ∃ (B : Hp) (v1 : V) (sc : List Int), vs = [v1] ∧ Same B H ∧ Dp K B v1 (scD sc) ∧ sc.length ≤ 1000 ∧ ∀ H', Q (.bl true) H'
end Ts
set_option Elab.async false
set_option linter.all false
set_option maxRecDepth 100000
set_option maxHeartbeats 4000000
namespace Ts
open PySem PySem.Spec PyProof.Rows L2
local macro_rules | `(tactic| walk_at "go") => `(tactic| simp only [cxK, cxK2, List.map_cons, List.map_nil, List.length_cons, List.length_nil, List.replicate, List.cons_append, List.nil_append, List.append_nil, Pk.ent, Nat.reduceAdd, Nat.reduceSub])
local macro_rules | `(tactic| walk_at "rfl") => `(tactic| with_unfolding_all exact rfl)
local macro_rules | `(tactic| walk_at "op") => `(tactic| with_reducible first
  | exact opd_plusI | exact opd_sub | exact opd_mod (by decide) | exact opb_eqI | exact opb_neI | exact opb_eqS | exact opb_neS | exact opb_eqB | exact opb_neB
  | exact opb_leI | exact opb_gtI | exact opb_geI | exact opb_ltI | exact opb_ltS | exact opb_isN | exact opb_notN | exact opb_inSgF | exact opb_inSLF | exact opb_inSTF | exact opb_inSLT | exact opb_inSTT | exact opb_inS2F | exact opb_inS2T
  | (apply opd_ixT; try walk_at "ix") | (apply opd_ixL; try walk_at "ix") | (apply opd_ixS; rotate_left; try walk_at "ix"; rotate_right) | apply opd_plusT | apply opd_mul | apply opd_div | apply opd_pow)
local macro_rules | `(tactic| walk_at "opD") => `(tactic| with_reducible first
  | walk_at "op" | (apply OpB.toD; walk_at "op"))
local macro_rules | `(tactic| walk_at "call") => `(tactic| with_reducible first
  | apply run_call1 | apply run_call2 | apply run_call3 | apply run_call4 | apply run_call5)
local macro_rules | `(tactic| walk_at "kit") => `(tactic| with_unfolding_all first | exact kit_ii | exact kit_ib | exact kit_ss | exact kit_st | exact kit_ts | exact kit_tt | exact kit_it | exact kit_ns)
local macro_rules | `(tactic| walk_at "ix") => `(tactic| first | exact atI_zero | exact atI_one | assumption | (with_unfolding_all exact rfl))
local macro_rules | `(tactic| walk_at "e") => `(tactic| with_reducible first
  | exact run_int | exact run_str | exact run_bl | exact run_non
  | (apply run_var; walk_at "rfl") | (apply run_wld; walk_at "rfl")
  | exact run_a0 | apply run_a
  | apply run_op | apply run_isi | apply run_chain | apply run_not | apply run_neg
  | apply run_tupF | apply run_tail | apply run_slT | apply run_slS | exact runo_none | apply runo_some
  | apply run_cb | exact call_lenT | exact call_lenL | apply call_lenS | exact call_max
  | (apply rp_w; walk_at "rfl") | apply rp_d
  | walk_at "call" | (apply RunV.toD; walk_at "call") | (apply RunV.toE; walk_at "call")
  | apply test_of | apply test_B | apply test_not
  | exact trivial
  | (apply run_dget1I; apply run_tab; walk_at "rfl") | (apply run_dgetI; apply run_tab; walk_at "rfl") | (apply run_dgetI; apply run_varD; walk_at "rfl")
  | walk_at "kit"
  | (show _ = some _; assumption)
  | walk_at "opD")
local macro_rules | `(tactic| walk_at "es") => `(tactic| repeat' (first | walk_at "e"))
local macro_rules | `(tactic| walk_at "k") => `(tactic| with_reducible first
  | apply test_orF | apply test_andT | apply test_notT | apply test_notF
  | apply run_andT | apply run_orF)
local macro_rules | `(tactic| walk_at "kl") => `(tactic| with_reducible first | (apply RunT.is; apply test_of) | (apply RunT.is; apply test_B) | apply RunE.is)
local macro_rules | `(tactic| walk_at "side") => `(tactic| first | assumption | (apply decide_eq_false; assumption) | (apply decide_eq_true; assumption) | (with_unfolding_all exact rfl) | (simp; done) | (apply congrArg PyData.bool; assumption) | (simp [*]; done))
local macro_rules | `(tactic| walk_at "ks") => `(tactic| ((repeat' (first | walk_at "k")); (all_goals (try walk_at "kl")); (repeat' (first | walk_at "e")); (all_goals (try walk_at "side"))))
local macro_rules | `(tactic| walk_at "le") => `(tactic| repeat' (first | exact Le.nil | apply Le.keep | apply Le.drop))
local macro_rules | `(tactic| walk_at "leT") => `(tactic| ((repeat' (first | exact Le.nil | apply Le.keep | apply Le.twn | apply Le.drop)); (all_goals (try omega))))

variable {P : Program} {w : World} {K : PySem.W.Frag} {mg : Str → Option Value} {base : Heap}
theorem Srt.aD_eq (t : Str) (s : Srt) : aD (t, s) = .tuple [.str t, s.D] := by
  show PyData.tuple [.str t, s.T] = _
  rw [Srt.T_eq]
theorem run_main {F : Fx} {t : TS} {r : PEnv} {B H : Hp} {s : L2.St} {Q : VK} (h : RunS K F t r ⟨fun _ => False, fun _ _ v => v = .bl true, fun _ => False, fun _ => False⟩) (ok : EnvOk K F B H s r) (q : ∀ H', Q (.bl true) H') : t { nx := fun _ H' => Q .non H', rt := Q } s H :=
  h s B H ok _ (fun _ _ _ _ z => z.elim) (fun v s' B2 H2 r' z _ _ => by rw [z]; exact q H2) (fun _ _ _ _ z => z.elim) (fun _ _ _ _ z => z.elim)
theorem run_mainT {u : TS} {B H : Hp} {s0 : L2.St} {Q : VK} {v1 : V} {sc : List Int} (h0 : s0[0]? = some (some v1)) (h1 : ∀ p : Addr, s0.set 1 (some (.ref p)) = [v1, V.ref p].map some ++ List.replicate 10 none) (sb : Same B H) (d1 : Dp K B v1 (scD sc)) (hsc : sc.length ≤ 1000) (q : ∀ H', Q (.bl true) H')
    (h : ∀ F : Fx, F.m = sc.length → RunS K F u [some (.d (scD sc)), some (.twn 0), none, none, none, none, none, none, none, none, none, none] ⟨fun _ => False, fun _ _ v => v = .bl true, fun _ => False, fun _ => False⟩) :
    tSeq (tAsg (tCall (spTown K) [] E0 (tCons (tVar 0) tNil)) (gName 1)) u { nx := fun _ H' => Q .non H', rt := Q } s0 H := by
  refine ⟨v1, h0, B, v1, sc, rfl, sb, d1, hsc, fun p B' H' g hp bp hp' => ?_⟩
  have htw : TwOk sc.length 0 (0 :: sc) := ⟨0, sc, rfl, rfl, Int.le_refl _, Int.le_refl _⟩
  have en : Ents K ⟨H', B', some p, sc.length⟩ B' H' [v1, .ref p] [.d (scD sc), .twn 0] := .cons (show EntOk K _ B' H' v1 (.d (scD sc)) from dp_mono g.bb _ _ d1) (fun ds z => nomatch z) <| .cons (show EntOk K _ B' H' (.ref p) (.twn 0) from ⟨p, 0 :: sc, rfl, bp, rfl, hp', htw⟩) (fun ds z => nomatch z) .nil
  have ok := env_start (m := 10) en rfl rfl g.bh (fun p' e => by cases e; exact ⟨bp, by rw [hp']; simp⟩)
  rw [← h1 p] at ok
  exact run_main (h _ rfl) ok q
theorem ok_law (T : Tb K mg) : FnOk P w K mg base CX0 15 T.law.f T.law.fd ["_law_script"] (spLaw K) := by
  have G__law_town := ok__law_town (P := P) (w := w) (base := base) T
  have G__law_traits := ok__law_traits (P := P) (w := w) (base := base) T
  have G_chosen := ok_chosen (P := P) (w := w) (base := base) T
  have G__law_best := ok__law_best (P := P) (w := w) (base := base) T
  have G_holds_specially := ok_holds_specially (P := P) (w := w) (base := base) T
  have G__law_special := ok__law_special (P := P) (w := w) (base := base) T 8
  have G_holds := ok_holds (P := P) (w := w) (base := base) T
  have G_overlaps := ok_overlaps (P := P) (w := w) (base := base) T
  have G_dead_ends := ok_dead_ends (P := P) (w := w) (base := base) T
  refine T.law.F.ok sc_law (fun vs H Q E h => ?_) (fun cdv A outer s H vs Q E hr h => ?_)
  · obtain ⟨B, v1, sc, rfl, _⟩ := h
    rfl
  obtain ⟨B, v1, sc, rfl, sb, d1, hsc, q⟩ := h
  have G__law_world := ok__law_world (P := P) (w := w) (base := base) sc hsc T
  have G__law_loose := ok__law_loose (P := P) (w := w) (base := base) sc hsc T
  have G__law_pick := ok__law_pick (P := P) (w := w) (base := base) sc hsc T
  have G__law_sort := ok__law_sort (P := P) (w := w) (base := base) sc hsc T 4
  refine ⟨_, (pss_cons (ps_set (i := 1) sc_law.nd rfl (.inl rfl) (pe_call G__law_town (hr.mono (by omega)) rfl T._law_town.m T._law_town.F.kp T._law_town.b .nil pass0 (pa_cons (vr 0 rfl (.inl rfl)) pa_nil))) (pss_cons (ps_set (i := 2) sc_law.nd rfl (.inl rfl) (pe_call G__law_world (hr.mono (by omega)) rfl T._law_world.m T._law_world.F.kp T._law_world.b .nil pass0 (pa_cons (vr 0 rfl (.inl rfl)) (pa_cons (vr 1 rfl (.inl rfl)) pa_nil)))) (pss_cons (ps_set (i := 3) sc_law.nd rfl (.inl rfl) (pe_call G__law_loose (hr.mono (by omega)) rfl T._law_loose.m T._law_loose.F.kp T._law_loose.b .nil pass0 (pa_cons (vr 0 rfl (.inl rfl)) (pa_cons (vr 1 rfl (.inl rfl)) (pa_cons (vr 2 rfl (.inl rfl)) pa_nil))))) (pss_cons (ps_for PassesOwn.never rfl (pi_range1 rfl T.g_range (pa_cons pe_int pa_nil)) (pg_name (i := 4) sc_law.nd rfl (.inl rfl)) (pss_cons (ps_par (i := 5) (j := 6) rfl sc_law.nd rfl rfl (by decide) rfl rfl (pa_cons (pe_call G__law_pick (hr.mono (by omega)) rfl T._law_pick.m T._law_pick.F.kp T._law_pick.b .nil pass0 (pa_cons (vr 0 rfl (.inl rfl)) (pa_cons (vr 1 rfl (.inl rfl)) (pa_cons (pe_call G__law_traits (hr.mono (by omega)) rfl T._law_traits.m T._law_traits.F.kp T._law_traits.b .nil pass0 (pa_cons (vr 2 rfl (.inl rfl)) pa_nil)) pa_nil)))) (pa_cons (pe_call G__law_sort (hr.mono (by omega)) rfl T._law_sort.m T._law_sort.F.kp T._law_sort.b .nil pass0 (pa_cons (vr 0 rfl (.inl rfl)) (pa_cons (vr 1 rfl (.inl rfl)) (pa_cons (vr 2 rfl (.inl rfl)) (pa_cons pe_int pa_nil))))) pa_nil)) (by rfl)) (pss_cons (ps_if (pt_cmpR (op_neK K rfl (hu64 hr)) (pe_call G_chosen (hr.mono (by omega)) rfl T.chosen.m T.chosen.F.kp T.chosen.b .nil pass0 (pa_cons (vr 2 rfl (.inl rfl)) (pa_cons (vr 3 rfl (.inl rfl)) (pa_cons (vr 5 rfl (.inl rfl)) (pa_cons (vr 6 rfl (.inl rfl)) pa_nil))))) (pe_call G__law_best (hr.mono (by omega)) rfl T._law_best.m T._law_best.F.kp T._law_best.b .nil pass0 (pa_cons (vr 3 rfl (.inl rfl)) (pa_cons (vr 5 rfl (.inl rfl)) (pa_cons (vr 6 rfl (.inl rfl)) pa_nil)))) (nomark _)) (pss_one (ps_ret pe_bl)) pss_nil) (pss_cons (ps_set (i := 7) sc_law.nd rfl (.inl rfl) (pe_call G_holds_specially (hr.mono (by omega)) rfl T.holds_specially.m T.holds_specially.F.kp T.holds_specially.b .nil pass0 (pa_cons (vr 2 rfl (.inl rfl)) (pa_cons (vr 3 rfl (.inl rfl)) (pa_cons (vr 5 rfl (.inl rfl)) (pa_cons (vr 6 rfl (.inl rfl)) pa_nil)))))) (pss_cons (ps_if (pt_cmpR (op_neK K rfl (hu64 hr)) (vr 7 rfl (.inl rfl)) (pe_call G__law_special (hr.mono (by omega)) rfl T._law_special.m T._law_special.F.kp T._law_special.b .nil pass0 (pa_cons (vr 3 rfl (.inl rfl)) (pa_cons (vr 5 rfl (.inl rfl)) (pa_cons (vr 6 rfl (.inl rfl)) pa_nil)))) (nomark _)) (pss_one (ps_ret pe_bl)) pss_nil) (pss_cons (ps_if (PW.pt (pw_and (pt_val (vr 7 rfl (.inl rfl))) (pw_and1 (pt_not (pt_val (pe_call G_holds (hr.mono (by omega)) rfl T.holds.m T.holds.F.kp T.holds.b .nil pass0 (pa_cons (vr 2 rfl (.inl rfl)) (pa_cons (vr 3 rfl (.inl rfl)) (pa_cons (vr 5 rfl (.inl rfl)) (pa_cons (vr 6 rfl (.inl rfl)) pa_nil)))))))))) (pss_one (ps_ret pe_bl)) pss_nil) (pss_cons (ps_if (PW.pt (pw_and (pt_cmpR (op_eqK K rfl (hu64 hr)) (pe_call G_overlaps (hr.mono (by omega)) rfl T.overlaps.m T.overlaps.F.kp T.overlaps.b .nil pass0 (pa_cons (vr 2 rfl (.inl rfl)) (pa_cons (vr 3 rfl (.inl rfl)) pa_nil))) (pe_tupF pa_nil) (nomark _)) (pw_and1 (pt_cmpR (op_neK K rfl (hu64 hr)) (vr 7 rfl (.inl rfl)) (pe_call G_holds (hr.mono (by omega)) rfl T.holds.m T.holds.F.kp T.holds.b .nil pass0 (pa_cons (vr 2 rfl (.inl rfl)) (pa_cons (vr 3 rfl (.inl rfl)) (pa_cons (vr 5 rfl (.inl rfl)) (pa_cons (vr 6 rfl (.inl rfl)) pa_nil))))) (nomark _))))) (pss_one (ps_ret pe_bl)) pss_nil) (pss_cons (ps_set (i := 8) sc_law.nd rfl (.inl rfl) (pe_cmpR op_isNn (pe_call G_chosen (hr.mono (by omega)) rfl T.chosen.m T.chosen.F.kp T.chosen.b .nil pass0 (pa_cons (vr 2 rfl (.inl rfl)) (pa_cons (vr 3 rfl (.inl rfl)) (pa_cons (vr 5 rfl (.inl rfl)) (pa_cons (vr 6 rfl (.inl rfl)) pa_nil))))) pe_non (nomark _))) (pss_cons (ps_if (pt_cmpR (op_neK K rfl (hu64 hr)) (vr 8 rfl (.inl rfl)) (pe_cmpR (op_eqK K rfl (hu64 hr)) (pe_call G_dead_ends (hr.mono (by omega)) rfl T.dead_ends.m T.dead_ends.F.kp T.dead_ends.b .nil pass0 (pa_cons (vr 2 rfl (.inl rfl)) (pa_cons (vr 3 rfl (.inl rfl)) (pa_cons (vr 5 rfl (.inl rfl)) (pa_cons (vr 6 rfl (.inl rfl)) pa_nil))))) (pe_tupF (pa_cons (pe_tupF (pa_cons (vr 5 rfl (.inl rfl)) (pa_cons (vr 6 rfl (.inl rfl)) pa_nil))) pa_nil)) (nomark _)) (nomark _)) (pss_one (ps_ret pe_bl)) pss_nil) (pss_cons (ps_set (i := 9) sc_law.nd rfl (.inl rfl) (pe_revT (vr 3 rfl (.inl rfl)))) (pss_cons (ps_set (i := 10) sc_law.nd rfl (.inl rfl) (pe_call G_chosen (hr.mono (by omega)) rfl T.chosen.m T.chosen.F.kp T.chosen.b .nil pass0 (pa_cons (vr 2 rfl (.inl rfl)) (pa_cons (vr 9 rfl (.inl rfl)) (pa_cons (vr 5 rfl (.inl rfl)) (pa_cons (vr 6 rfl (.inl rfl)) pa_nil)))))) (pss_cons (ps_set (i := 11) sc_law.nd rfl (.inl rfl) (pe_call G_chosen (hr.mono (by omega)) rfl T.chosen.m T.chosen.F.kp T.chosen.b .nil pass0 (pa_cons (vr 2 rfl (.inl rfl)) (pa_cons (vr 3 rfl (.inl rfl)) (pa_cons (vr 5 rfl (.inl rfl)) (pa_cons (vr 6 rfl (.inl rfl)) pa_nil)))))) (pss_cons (ps_if (PW.pt (pw_and (pt_cmpR op_notNn (vr 10 rfl (.inl rfl)) pe_non (nomark _)) (pw_and1 (pt_cmpR (op_neK K rfl (hu64 hr)) (pe_ix (ix_K K rfl) (vr 9 rfl (.inl rfl)) (vr 10 rfl (.inl rfl)) (fun _ _ => rfl)) (pe_ix (ix_K K rfl) (vr 3 rfl (.inl rfl)) (vr 11 rfl (.inl rfl)) (fun _ _ => rfl)) (nomark _))))) (pss_one (ps_ret pe_bl)) pss_nil) (pss_one (ps_if (pt_cmpR (op_neK K rfl (hu64 hr)) (pe_call G_holds_specially (hr.mono (by omega)) rfl T.holds_specially.m T.holds_specially.F.kp T.holds_specially.b .nil pass0 (pa_cons (vr 2 rfl (.inl rfl)) (pa_cons (vr 9 rfl (.inl rfl)) (pa_cons (vr 5 rfl (.inl rfl)) (pa_cons (vr 6 rfl (.inl rfl)) pa_nil))))) (vr 7 rfl (.inl rfl)) (nomark _)) (pss_one (ps_ret pe_bl)) pss_nil))))))))))))))) (pss_one (ps_ret pe_bl)))))), ?_⟩
  refine run_mainT (s0 := L2.start _ [v1]) rfl (fun p => rfl) sb d1 hsc q fun F hF => ?_
  simp only [cxK, cxK2]
  have ex0 : (0 : Nat) + 20 ≤ 1000000 := by decide
  refine run_seq (run_asgXW (p := fun d => ∃ w : Wd, WOk w ∧ d = w.D) (RunX.imp (run_callT0 hF rfl rfl ex0 trivial) fun B v ⟨w, hw, h1, h2⟩ => ⟨_, ⟨w, hw, rfl⟩, h1, h2⟩) ?_)
  rintro d ⟨wd, hw, rfl⟩
  refine run_seq (run_asgX (p := fun d => ∃ S : List Ins, (S.length ≤ 6 ∧ (∀ i ∈ S, InsOk wd i) ∧ Loose S) ∧ d = setD S) (RunX.imp (run_callT1 (x3 := wd) hF rfl rfl (rp_w rfl) (by decide) hw) fun B v ⟨S, h1, h2, h3, h4⟩ => ⟨_, ⟨S, ⟨h1, h2, h3⟩, rfl⟩, h4⟩) ?_)
  rintro d ⟨S, ⟨hS6, hSo, hL⟩, rfl⟩
  change RunS K F _ [some (.d (scD sc)), some (.twn 220), some (.wld wd.D), some (.d (setD S)), none, none, none, none, none, none, none, none] _
  refine run_seq (run_forI (vs := [4]) (n := 220) (fun (i : Nat) => PyData.int (i : Int)) (fun l => l = List.range 6) (fun l i r0 => r0 = [some (.d (scD sc)), some (.twn (220 + 16 * i)), some (.wld wd.D), some (.d (setD S)), none, none, none, none, none, none, none, none])
    ((rix_pure (n := 220) (runi_rngM (n := 6) (run_a (RunE.is run_int rfl) run_a0) (by decide)) rfl).imp fun ds e => ⟨_, e, rfl⟩) ?_ ?_ ?_)
  · rintro l rfl
    exact ⟨_, rfl, by walk_at "le"⟩
  · rintro l rfl i y r0 hy rfl
    have hi6 : i < 6 := by
      have := (List.getElem?_eq_some_iff.mp hy).1
      rw [List.length_range] at this
      exact this
    refine ⟨_, rung_name (by decide), ?_⟩
    have hts := hw.n3
    have hts1 := hw.n1
    refine run_seq (run_parX (n := 220 + 16 * i + 16) (p2 := fun a b => ∃ t s, t ∈ wd.ts.map Trt.n ∧ (SrtOk wd s ∧ s.dep ≤ 4 ∧ s.size ≤ 9) ∧ a = .str t ∧ b = Srt.D s) (RunDA.imp (rda_cons (run_pick hF rfl rfl (by omega) (RunV.toE (run_call1 (x1 := wd) (rp_w rfl) (by omega))) (by rw [List.length_map, List.length_map]; omega) (by rw [List.length_map, List.length_map]; omega)) (rda_cons (pa := fun d => ∃ s, (SrtOk wd s ∧ s.dep ≤ 4 ∧ s.size ≤ 9) ∧ d = Srt.D s) (RunX.imp (run_callT2 (x3 := wd) (x4 := 4) hF rfl rfl (rp_w rfl) (rp_d (RunE.is run_int rfl)) (by show _ + 15 ≤ 1000000; omega) ⟨hw, by decide, by decide, by decide⟩) fun B v ⟨s, h1, h2, h3, h4⟩ => ⟨_, ⟨s, ⟨h1, h2, h3⟩, rfl⟩, by rw [← Srt.T_eq]; exact h4⟩) (rda_nil rfl))) ?_) ?_)
    · rintro ds ⟨a, l, rfl, ha, b, l', rfl, ⟨s, hs, rfl⟩, rfl⟩
      obtain ⟨t, ht, rfl⟩ := List.mem_map.mp ha
      exact ⟨_, _, rfl, t, s, ht, hs, rfl, rfl⟩
    rintro a b ⟨t, so, ht, ⟨hso, hd4, hz9⟩, rfl, rfl⟩
    change RunS K F _ [some (.d (scD sc)), some (.twn (220 + 16 * i + 16)), some (.wld wd.D), some (.d (setD S)), some (.d (.int (y : Int))), some (.d (.str t)), some (.d so.D), none, none, none, none, none] _
    have hR : Rd S so := ⟨by omega, wd, hw.wd.pre, hSo, hso, hw.rows.nm⟩
    obtain ⟨hSet, hSP⟩ := InsOk.set hw hSo (by omega)
    have hSo' : ∀ i ∈ S.reverse, InsOk wd i := fun i hi => hSo i (List.mem_reverse.mp hi)
    obtain ⟨hSet', hSP'⟩ := InsOk.set hw hSo' (by rw [List.length_reverse]; omega)
    have hA : AskOk wd S t so := ⟨hSet, ht, hso, by omega, by omega⟩
    have hA' : AskOk wd S.reverse t so := ⟨hSet', ht, hso, by omega, by omega⟩
    have hL' := loose_rev hL
    have hR' := hR.rev
    have htn : NmOk t := by
      obtain ⟨z, hz, e⟩ := List.mem_map.mp ht
      rw [← e]
      exact (hw.wd.pre.ts.lay z hz).1
    refine run_skip (RunT.is (test_op (RunV.toD (run_call4 (x1 := wd) (x2 := S) (x3 := t) (x4 := so) (rp_w rfl) (rp_d (run_var rfl)) (rp_d (run_var rfl)) (rp_d (run_var rfl)) ⟨hA, hSP, hL⟩)) (RunV.toD (run_call3 (x1 := S) (x2 := t) (x3 := so) (rp_d (run_var rfl)) (rp_d (run_var rfl)) (rp_d (run_var rfl)) hR)) opb_neO) (by rw [best_eq hR hL]; simp)) ?_
    refine run_asgq (RunV.toD (run_call4 (x1 := wd) (x2 := S) (x3 := t) (x4 := so) (rp_w rfl) (rp_d (run_var rfl)) (rp_d (run_var rfl)) (rp_d (run_var rfl)) ⟨hA, hR, hSP, hL⟩)) ?_
    refine run_skip (RunT.is (test_op (run_var rfl) (RunV.toD (run_call3 (x1 := S) (x2 := t) (x3 := so) (rp_d (run_var rfl)) (rp_d (run_var rfl)) (rp_d (run_var rfl)) ⟨hR, by omega⟩)) opb_neB) (by rw [specN_best 8 hR hL]; simp)) ?_
    have callHolds : ∀ {r : PEnv}, r[2]? = some (some (.wld wd.D)) → r[3]? = some (some (.d (setD S))) → r[5]? = some (some (.d (.str t))) → r[6]? = some (some (.d so.D)) → RunE K F (tCall (SpHolds K) [] E0 (tCons (tVar 2) (tCons (tVar 3) (tCons (tVar 5) (tCons (tVar 6) tNil))))) r (.bool (standsN 8 S t so)) := fun {r} e1 e2 e3 e4 =>
      RunV.toD (run_call4 (x1 := wd) (x2 := S) (x3 := t) (x4 := so) (rp_w e1) (rp_d (run_var e2)) (rp_d (run_var e3)) (rp_d (run_var e4)) ⟨hA, hR⟩)
    refine run_skip (RunT.is (test_and (test_B (run_var rfl)) fun _ => test_not (test_B (callHolds rfl rfl rfl rfl))) ?_) ?_
    · cases hsp : specN chosenB 8 S t so with
      | false => rfl
      | true =>
        rw [spec_holds 8 hR hsp]
        rfl
    refine run_skip (RunT.is (test_and (k := (pairsOf overB S).isEmpty) (RunT.is (test_op (RunV.toD (run_call2 (x1 := wd) (x2 := S) (rp_w rfl) (rp_d (run_var rfl)) ⟨hSet, hSP⟩)) (run_tupF run_a0 (by simp)) (opb_eqD (Sh.tup (m := 1) (ShA.map fun y _ => .tup (ShA.cons .int (ShA.cons .int ShA.nil)))).shaped (Sh.tup (m := 0) ShA.nil).shaped)) ?_) fun _ => test_op (run_var rfl) (callHolds rfl rfl rfl rfl) opb_neB) ?_) ?_
    · cases pairsOf overB S <;> simp [PyData.eqv, PyData.eqvAll]
    · cases ho : (pairsOf overB S).isEmpty with
      | false => rfl
      | true =>
        rw [holds_same 8 hR (List.isEmpty_iff.mp ho)]
        simp
    have callChosen : ∀ {r : PEnv} {S' : List Ins} {j : Nat}, AskOk wd S' t so → SetP S' → Loose S' → r[2]? = some (some (.wld wd.D)) → r[j]? = some (some (.d (setD S'))) → r[5]? = some (some (.d (.str t))) → r[6]? = some (some (.d so.D)) → RunE K F (tCall (SpChosen K) [] E0 (tCons (tVar 2) (tCons (tVar j) (tCons (tVar 5) (tCons (tVar 6) tNil))))) r (optD (chosenB S' t so)) := fun {r S' j} h1 h2 h3 e1 e2 e3 e4 =>
      RunV.toD (run_call4 (x1 := wd) (x2 := S') (x3 := t) (x4 := so) (rp_w e1) (rp_d (run_var e2)) (rp_d (run_var e3)) (rp_d (run_var e4)) ⟨h1, h2, h3⟩)
    refine run_asgq (run_opB (callChosen hA hSP hL rfl rfl rfl rfl) run_non opb_isO) ?_
    have hdm : ∀ x ∈ deadL S t so, Sh 5 (aD x) := fun x hx => by
      unfold deadL at hx
      rw [← List.take_length (l := (endsN 8 S t so).mergeSort aLe)] at hx
      have hx' := List.mem_mergeSort.mp (dd_sub _ _ hx)
      obtain ⟨q1, q2, q3, _⟩ := ends_mem hR htn x hx'
      exact .tup (ShA.cons (.str q2) (ShA.cons (q1.shS.mono (by omega)) ShA.nil))
    have h1ask : Sh 5 (aD (t, so)) := .tup (ShA.cons (.str htn) (ShA.cons (hR.shS.mono (by omega)) ShA.nil))
    refine run_skip (RunT.is (test_op (run_var rfl) (run_opB (b := .tuple [aD (t, so)]) (RunV.toD (run_call4 (x1 := wd) (x2 := S) (x3 := t) (x4 := so) (rp_w rfl) (rp_d (run_var rfl)) (rp_d (run_var rfl)) (rp_d (run_var rfl)) ⟨hA, hR, htn, hd4⟩)) (RunE.is (run_tupF (run_a (run_tupF (run_a (run_var rfl) (run_a (run_var rfl) run_a0)) (by simp)) run_a0) (by simp)) (by rw [Srt.aD_eq])) (opb_eqD (Sh.tup (ShA.map hdm)).shaped (Sh.tup (ShA.cons h1ask ShA.nil)).shaped)) opb_neB) (by rw [dead_iff hR hL htn (by omega)]; simp)) ?_
    refine run_asgq (d := setD S.reverse) (RunE.is (run_rev (run_var rfl)) (by show PyData.tuple (S.map Ins.D).reverse = .tuple (S.reverse.map Ins.D); rw [List.map_reverse])) ?_
    refine run_asgq (callChosen hA' hSP' hL' rfl rfl rfl rfl) ?_
    refine run_asgq (callChosen hA hSP hL rfl rfl rfl rfl) ?_
    change RunS K F _ [some (.d (scD sc)), some (.twn (220 + 16 * i + 16)), some (.wld wd.D), some (.d (setD S)), some (.d (.int (y : Int))), some (.d (.str t)), some (.d so.D), some (.d (.bool (specN chosenB 8 S t so))), some (.d (.bool (decide (chosenB S t so = none)))), some (.d (setD S.reverse)), some (.d (optD (chosenB S.reverse t so))), some (.d (optD (chosenB S t so)))] _
    refine run_skip ?_ ?_
    · rcases chosen_rev (t := t) hR hL with ⟨e1, e2⟩ | ⟨k, k', ins, e1, e2, e3, e4⟩
      · rw [e1, e2]
        exact test_andF (test_op (a := .none) (run_var rfl) run_non opb_notN)
      · rw [e1, e2]
        have hins := hSo ins (List.mem_of_getElem? e4)
        have hsh := hins.sh hw.wd.pre hw.rows.nm
        refine test_andT (test_op (a := .int (k' : Int)) (run_var rfl) run_non (opb_notNV (fun z => nomatch z))) (RunT.is (test_op (run_op (run_var rfl) (b := .int (k' : Int)) (run_var rfl) (opd_ixT (set_at e3))) (run_op (run_var rfl) (b := .int (k : Int)) (run_var rfl) (opd_ixT (set_at e4))) (opb_neD hsh.shaped hsh.shaped)) ?_)
        rw [(eqv_iff _ _ hins.nb hins.nb).mpr rfl]
        rfl
    refine run_iffF (RunT.is (test_op (RunV.toD (run_call4 (x1 := wd) (x2 := S.reverse) (x3 := t) (x4 := so) (rp_w rfl) (rp_d (run_var rfl)) (rp_d (run_var rfl)) (rp_d (run_var rfl)) ⟨hA', hR', hSP', hL'⟩)) (run_var rfl) opb_neB) (by rw [spec_rev 8 hR hL]; simp)) (run_next ⟨_, rfl, ?_⟩)
    have e : 220 + 16 * (i + 1) = 220 + 16 * i + 16 := by omega
    rw [e]
    walk_at "le"
  · rintro l r0 rfl rfl
    exact run_ret run_bl fun B v dv => by cases dv; rfl
end Ts
set_option Elab.async false
set_option linter.all false
set_option maxRecDepth 100000
set_option maxHeartbeats 2000000
/-! The table of the program's top; the claim. -/
namespace Ts
open PySem PySem.Spec PyProof.Rows L2
theorem all_mk {l : PySem.W.OpenLaw} {w : World} {K : PySem.W.Frag} {h : Heap} {mg : Str → Option Value} {fa f1 f2 f3 f4 f5 f6 f7 f8 f9 f10 f11 f12 f13 f14 f15 f16 f17 f18 f19 f20 f21 f22 f23 f24 f25 f26 f27 f28 f29 f30 f31 f32 f33 f34 f35 f36 f37 f38 f39 f40 f41 f42 f43 f44 f45 f46 f47 f48 f49 f50 f51 f52 f53 f54 : Addr} (X : K.In h) (G : h.Ns mainGlobals mg) (hfa : mg "law" = some (.ref fa))
    {od1 an1 : Option Addr} {sl1 : Array (Option Value)} {oc1 kV1 dc1 pm1 cd1 ct1 : Value}
    {od2 an2 : Option Addr} {sl2 : Array (Option Value)} {oc2 kV2 dc2 pm2 cd2 ct2 : Value}
    {od3 an3 : Option Addr} {sl3 : Array (Option Value)} {oc3 kV3 dc3 pm3 cd3 ct3 : Value}
    {od4 an4 : Option Addr} {sl4 : Array (Option Value)} {oc4 kV4 dc4 pm4 cd4 ct4 : Value}
    {od5 an5 : Option Addr} {sl5 : Array (Option Value)} {oc5 kV5 dc5 pm5 cd5 ct5 : Value}
    {od6 an6 : Option Addr} {sl6 : Array (Option Value)} {oc6 kV6 dc6 pm6 cd6 ct6 : Value}
    {od7 an7 : Option Addr} {sl7 : Array (Option Value)} {oc7 kV7 dc7 pm7 cd7 ct7 : Value}
    {od8 an8 : Option Addr} {sl8 : Array (Option Value)} {oc8 kV8 dc8 pm8 cd8 ct8 : Value}
    {od9 an9 : Option Addr} {sl9 : Array (Option Value)} {oc9 kV9 dc9 pm9 cd9 ct9 : Value}
    {od10 an10 : Option Addr} {sl10 : Array (Option Value)} {oc10 kV10 dc10 pm10 cd10 ct10 : Value}
    {od11 an11 : Option Addr} {sl11 : Array (Option Value)} {oc11 kV11 dc11 pm11 cd11 ct11 : Value}
    {od12 an12 : Option Addr} {sl12 : Array (Option Value)} {oc12 kV12 dc12 pm12 cd12 ct12 : Value}
    {od13 an13 : Option Addr} {sl13 : Array (Option Value)} {oc13 kV13 dc13 pm13 cd13 ct13 : Value}
    {od14 an14 : Option Addr} {sl14 : Array (Option Value)} {oc14 kV14 dc14 pm14 cd14 ct14 : Value}
    {od15 an15 : Option Addr} {sl15 : Array (Option Value)} {oc15 kV15 dc15 pm15 cd15 ct15 : Value}
    {od16 an16 : Option Addr} {sl16 : Array (Option Value)} {oc16 kV16 dc16 pm16 cd16 ct16 : Value}
    {od17 an17 : Option Addr} {sl17 : Array (Option Value)} {oc17 kV17 dc17 pm17 cd17 ct17 : Value}
    {od18 an18 : Option Addr} {sl18 : Array (Option Value)} {oc18 kV18 dc18 pm18 cd18 ct18 : Value}
    {od19 an19 : Option Addr} {sl19 : Array (Option Value)} {oc19 kV19 dc19 pm19 cd19 ct19 : Value}
    {od20 an20 : Option Addr} {sl20 : Array (Option Value)} {oc20 kV20 dc20 pm20 cd20 ct20 : Value}
    {od21 an21 : Option Addr} {sl21 : Array (Option Value)} {oc21 kV21 dc21 pm21 cd21 ct21 : Value}
    {od22 an22 : Option Addr} {sl22 : Array (Option Value)} {oc22 kV22 dc22 pm22 cd22 ct22 : Value}
    {od23 an23 : Option Addr} {sl23 : Array (Option Value)} {oc23 kV23 dc23 pm23 cd23 ct23 : Value}
    {od24 an24 : Option Addr} {sl24 : Array (Option Value)} {oc24 kV24 dc24 pm24 cd24 ct24 : Value}
    {od25 an25 : Option Addr} {sl25 : Array (Option Value)} {oc25 kV25 dc25 pm25 cd25 ct25 : Value}
    {od26 an26 : Option Addr} {sl26 : Array (Option Value)} {oc26 kV26 dc26 pm26 cd26 ct26 : Value}
    {od27 an27 : Option Addr} {sl27 : Array (Option Value)} {oc27 kV27 dc27 pm27 cd27 ct27 : Value}
    {od28 an28 : Option Addr} {sl28 : Array (Option Value)} {oc28 kV28 dc28 pm28 cd28 ct28 : Value}
    {od29 an29 : Option Addr} {sl29 : Array (Option Value)} {oc29 kV29 dc29 pm29 cd29 ct29 : Value}
    {od30 an30 : Option Addr} {sl30 : Array (Option Value)} {oc30 kV30 dc30 pm30 cd30 ct30 : Value}
    {od31 an31 : Option Addr} {sl31 : Array (Option Value)} {oc31 kV31 dc31 pm31 cd31 ct31 : Value}
    {od32 an32 : Option Addr} {sl32 : Array (Option Value)} {oc32 kV32 dc32 pm32 cd32 ct32 : Value}
    {od33 an33 : Option Addr} {sl33 : Array (Option Value)} {oc33 kV33 dc33 pm33 cd33 ct33 : Value}
    {od34 an34 : Option Addr} {sl34 : Array (Option Value)} {oc34 kV34 dc34 pm34 cd34 ct34 : Value}
    {od35 an35 : Option Addr} {sl35 : Array (Option Value)} {oc35 kV35 dc35 pm35 cd35 ct35 : Value}
    {od36 an36 : Option Addr} {sl36 : Array (Option Value)} {oc36 kV36 dc36 pm36 cd36 ct36 : Value}
    {od37 an37 : Option Addr} {sl37 : Array (Option Value)} {oc37 kV37 dc37 pm37 cd37 ct37 : Value}
    {od38 an38 : Option Addr} {sl38 : Array (Option Value)} {oc38 kV38 dc38 pm38 cd38 ct38 : Value}
    {od39 an39 : Option Addr} {sl39 : Array (Option Value)} {oc39 kV39 dc39 pm39 cd39 ct39 : Value}
    {od40 an40 : Option Addr} {sl40 : Array (Option Value)} {oc40 kV40 dc40 pm40 cd40 ct40 : Value}
    {od41 an41 : Option Addr} {sl41 : Array (Option Value)} {oc41 kV41 dc41 pm41 cd41 ct41 : Value}
    {od42 an42 : Option Addr} {sl42 : Array (Option Value)} {oc42 kV42 dc42 pm42 cd42 ct42 : Value}
    {od43 an43 : Option Addr} {sl43 : Array (Option Value)} {oc43 kV43 dc43 pm43 cd43 ct43 : Value}
    {od44 an44 : Option Addr} {sl44 : Array (Option Value)} {oc44 kV44 dc44 pm44 cd44 ct44 : Value}
    {od45 an45 : Option Addr} {sl45 : Array (Option Value)} {oc45 kV45 dc45 pm45 cd45 ct45 : Value}
    {od46 an46 : Option Addr} {sl46 : Array (Option Value)} {oc46 kV46 dc46 pm46 cd46 ct46 : Value}
    {od47 an47 : Option Addr} {sl47 : Array (Option Value)} {oc47 kV47 dc47 pm47 cd47 ct47 : Value}
    {od48 an48 : Option Addr} {sl48 : Array (Option Value)} {oc48 kV48 dc48 pm48 cd48 ct48 : Value}
    {od49 an49 : Option Addr} {sl49 : Array (Option Value)} {oc49 kV49 dc49 pm49 cd49 ct49 : Value}
    {od50 an50 : Option Addr} {sl50 : Array (Option Value)} {oc50 kV50 dc50 pm50 cd50 ct50 : Value}
    {od51 an51 : Option Addr} {sl51 : Array (Option Value)} {oc51 kV51 dc51 pm51 cd51 ct51 : Value}
    {od52 an52 : Option Addr} {sl52 : Array (Option Value)} {oc52 kV52 dc52 pm52 cd52 ct52 : Value}
    {od53 an53 : Option Addr} {sl53 : Array (Option Value)} {oc53 kV53 dc53 pm53 cd53 ct53 : Value}
    {od54 an54 : Option Addr} {sl54 : Array (Option Value)} {oc54 kV54 dc54 pm54 cd54 ct54 : Value}
    (a1 : PySem.W.nsIn K mainGlobals "is_between" = some (some (.ref f1))) (l1 : K.lookup f1 = some ⟨oc1, od1, .func (PySem.W.fnOf "is_between" "is_between" (defArgs s_is_between) (defBody s_is_between) (defScope s_is_between) .none kV1 dc1 pm1 an1 cd1 ct1), sl1⟩) (c1 : PySem.W.codeIn K cd1 "is_between" = true) (k1 : PySem.W.keepIn K (.ref f1) = true)
    (a2 : PySem.W.nsIn K mainGlobals "are_small" = some (some (.ref f2))) (l2 : K.lookup f2 = some ⟨oc2, od2, .func (PySem.W.fnOf "are_small" "are_small" (defArgs s_are_small) (defBody s_are_small) (defScope s_are_small) .none kV2 dc2 pm2 an2 cd2 ct2), sl2⟩) (c2 : PySem.W.codeIn K cd2 "are_small" = true) (k2 : PySem.W.keepIn K (.ref f2) = true)
    (a3 : PySem.W.nsIn K mainGlobals "is_constructor" = some (some (.ref f3))) (l3 : K.lookup f3 = some ⟨oc3, od3, .func (PySem.W.fnOf "is_constructor" "is_constructor" (defArgs s_is_constructor) (defBody s_is_constructor) (defScope s_is_constructor) .none kV3 dc3 pm3 an3 cd3 ct3), sl3⟩) (c3 : PySem.W.codeIn K cd3 "is_constructor" = true) (k3 : PySem.W.keepIn K (.ref f3) = true)
    (a4 : PySem.W.nsIn K mainGlobals "are_traits" = some (some (.ref f4))) (l4 : K.lookup f4 = some ⟨oc4, od4, .func (PySem.W.fnOf "are_traits" "are_traits" (defArgs s_are_traits) (defBody s_are_traits) (defScope s_are_traits) .none kV4 dc4 pm4 an4 cd4 ct4), sl4⟩) (c4 : PySem.W.codeIn K cd4 "are_traits" = true) (k4 : PySem.W.keepIn K (.ref f4) = true)
    (a5 : PySem.W.nsIn K mainGlobals "is_world" = some (some (.ref f5))) (l5 : K.lookup f5 = some ⟨oc5, od5, .func (PySem.W.fnOf "is_world" "is_world" (defArgs s_is_world) (defBody s_is_world) (defScope s_is_world) .none kV5 dc5 pm5 an5 cd5 ct5), sl5⟩) (c5 : PySem.W.codeIn K cd5 "is_world" = true) (k5 : PySem.W.keepIn K (.ref f5) = true)
    (a6 : PySem.W.nsIn K mainGlobals "check_world" = some (some (.ref f6))) (l6 : K.lookup f6 = some ⟨oc6, od6, .func (PySem.W.fnOf "check_world" "check_world" (defArgs s_check_world) (defBody s_check_world) (defScope s_check_world) .none kV6 dc6 pm6 an6 cd6 ct6), sl6⟩) (c6 : PySem.W.codeIn K cd6 "check_world" = true) (k6 : PySem.W.keepIn K (.ref f6) = true)
    (a7 : PySem.W.nsIn K mainGlobals "trait_names" = some (some (.ref f7))) (l7 : K.lookup f7 = some ⟨oc7, od7, .func (PySem.W.fnOf "trait_names" "trait_names" (defArgs s_trait_names) (defBody s_trait_names) (defScope s_trait_names) .none kV7 dc7 pm7 an7 cd7 ct7), sl7⟩) (c7 : PySem.W.codeIn K cd7 "trait_names" = true) (k7 : PySem.W.keepIn K (.ref f7) = true)
    (a8 : PySem.W.nsIn K mainGlobals "form_of" = some (some (.ref f8))) (l8 : K.lookup f8 = some ⟨oc8, od8, .func (PySem.W.fnOf "form_of" "form_of" (defArgs s_form_of) (defBody s_form_of) (defScope s_form_of) .none kV8 dc8 pm8 an8 cd8 ct8), sl8⟩) (c8 : PySem.W.codeIn K cd8 "form_of" = true) (k8 : PySem.W.keepIn K (.ref f8) = true)
    (a9 : PySem.W.nsIn K mainGlobals "is_sort_with" = some (some (.ref f9))) (l9 : K.lookup f9 = some ⟨oc9, od9, .func (PySem.W.fnOf "is_sort_with" "is_sort_with" (defArgs s_is_sort_with) (defBody s_is_sort_with) (defScope s_is_sort_with) .none kV9 dc9 pm9 an9 cd9 ct9), sl9⟩) (c9 : PySem.W.codeIn K cd9 "is_sort_with" = true) (k9 : PySem.W.keepIn K (.ref f9) = true)
    (a10 : PySem.W.nsIn K mainGlobals "size_in" = some (some (.ref f10))) (l10 : K.lookup f10 = some ⟨oc10, od10, .func (PySem.W.fnOf "size_in" "size_in" (defArgs s_size_in) (defBody s_size_in) (defScope s_size_in) .none kV10 dc10 pm10 an10 cd10 ct10), sl10⟩) (c10 : PySem.W.codeIn K cd10 "size_in" = true) (k10 : PySem.W.keepIn K (.ref f10) = true)
    (a11 : PySem.W.nsIn K mainGlobals "check_sort" = some (some (.ref f11))) (l11 : K.lookup f11 = some ⟨oc11, od11, .func (PySem.W.fnOf "check_sort" "check_sort" (defArgs s_check_sort) (defBody s_check_sort) (defScope s_check_sort) .none kV11 dc11 pm11 an11 cd11 ct11), sl11⟩) (c11 : PySem.W.codeIn K cd11 "check_sort" = true) (k11 : PySem.W.keepIn K (.ref f11) = true)
    (a12 : PySem.W.nsIn K mainGlobals "check_trait" = some (some (.ref f12))) (l12 : K.lookup f12 = some ⟨oc12, od12, .func (PySem.W.fnOf "check_trait" "check_trait" (defArgs s_check_trait) (defBody s_check_trait) (defScope s_check_trait) .none kV12 dc12 pm12 an12 cd12 ct12), sl12⟩) (c12 : PySem.W.codeIn K cd12 "check_trait" = true) (k12 : PySem.W.keepIn K (.ref f12) = true)
    (a13 : PySem.W.nsIn K mainGlobals "reckoned" = some (some (.ref f13))) (l13 : K.lookup f13 = some ⟨oc13, od13, .func (PySem.W.fnOf "reckoned" "reckoned" (defArgs s_reckoned) (defBody s_reckoned) (defScope s_reckoned) .none kV13 dc13 pm13 an13 cd13 ct13), sl13⟩) (c13 : PySem.W.codeIn K cd13 "reckoned" = true) (k13 : PySem.W.keepIn K (.ref f13) = true)
    (a14 : PySem.W.nsIn K mainGlobals "is_reckoning" = some (some (.ref f14))) (l14 : K.lookup f14 = some ⟨oc14, od14, .func (PySem.W.fnOf "is_reckoning" "is_reckoning" (defArgs s_is_reckoning) (defBody s_is_reckoning) (defScope s_is_reckoning) .none kV14 dc14 pm14 an14 cd14 ct14), sl14⟩) (c14 : PySem.W.codeIn K cd14 "is_reckoning" = true) (k14 : PySem.W.keepIn K (.ref f14) = true)
    (a15 : PySem.W.nsIn K mainGlobals "is_short" = some (some (.ref f15))) (l15 : K.lookup f15 = some ⟨oc15, od15, .func (PySem.W.fnOf "is_short" "is_short" (defArgs s_is_short) (defBody s_is_short) (defScope s_is_short) .none kV15 dc15 pm15 an15 cd15 ct15), sl15⟩) (c15 : PySem.W.codeIn K cd15 "is_short" = true) (k15 : PySem.W.keepIn K (.ref f15) = true)
    (a16 : PySem.W.nsIn K mainGlobals "is_body" = some (some (.ref f16))) (l16 : K.lookup f16 = some ⟨oc16, od16, .func (PySem.W.fnOf "is_body" "is_body" (defArgs s_is_body) (defBody s_is_body) (defScope s_is_body) .none kV16 dc16 pm16 an16 cd16 ct16), sl16⟩) (c16 : PySem.W.codeIn K cd16 "is_body" = true) (k16 : PySem.W.keepIn K (.ref f16) = true)
    (a17 : PySem.W.nsIn K mainGlobals "are_asks" = some (some (.ref f17))) (l17 : K.lookup f17 = some ⟨oc17, od17, .func (PySem.W.fnOf "are_asks" "are_asks" (defArgs s_are_asks) (defBody s_are_asks) (defScope s_are_asks) .none kV17 dc17 pm17 an17 cd17 ct17), sl17⟩) (c17 : PySem.W.codeIn K cd17 "are_asks" = true) (k17 : PySem.W.keepIn K (.ref f17) = true)
    (a18 : PySem.W.nsIn K mainGlobals "is_known_instance" = some (some (.ref f18))) (l18 : K.lookup f18 = some ⟨oc18, od18, .func (PySem.W.fnOf "is_known_instance" "is_known_instance" (defArgs s_is_known_instance) (defBody s_is_known_instance) (defScope s_is_known_instance) .none kV18 dc18 pm18 an18 cd18 ct18), sl18⟩) (c18 : PySem.W.codeIn K cd18 "is_known_instance" = true) (k18 : PySem.W.keepIn K (.ref f18) = true)
    (a19 : PySem.W.nsIn K mainGlobals "are_instances" = some (some (.ref f19))) (l19 : K.lookup f19 = some ⟨oc19, od19, .func (PySem.W.fnOf "are_instances" "are_instances" (defArgs s_are_instances) (defBody s_are_instances) (defScope s_are_instances) .none kV19 dc19 pm19 an19 cd19 ct19), sl19⟩) (c19 : PySem.W.codeIn K cd19 "are_instances" = true) (k19 : PySem.W.keepIn K (.ref f19) = true)
    (a20 : PySem.W.nsIn K mainGlobals "check_set" = some (some (.ref f20))) (l20 : K.lookup f20 = some ⟨oc20, od20, .func (PySem.W.fnOf "check_set" "check_set" (defArgs s_check_set) (defBody s_check_set) (defScope s_check_set) .none kV20 dc20 pm20 an20 cd20 ct20), sl20⟩) (c20 : PySem.W.codeIn K cd20 "check_set" = true) (k20 : PySem.W.keepIn K (.ref f20) = true)
    (a21 : PySem.W.nsIn K mainGlobals "check_ask" = some (some (.ref f21))) (l21 : K.lookup f21 = some ⟨oc21, od21, .func (PySem.W.fnOf "check_ask" "check_ask" (defArgs s_check_ask) (defBody s_check_ask) (defScope s_check_ask) .none kV21 dc21 pm21 an21 cd21 ct21), sl21⟩) (c21 : PySem.W.codeIn K cd21 "check_ask" = true) (k21 : PySem.W.keepIn K (.ref f21) = true)
    (a22 : PySem.W.nsIn K mainGlobals "does_fit" = some (some (.ref f22))) (l22 : K.lookup f22 = some ⟨oc22, od22, .func (PySem.W.fnOf "does_fit" "does_fit" (defArgs s_does_fit) (defBody s_does_fit) (defScope s_does_fit) .none kV22 dc22 pm22 an22 cd22 ct22), sl22⟩) (c22 : PySem.W.codeIn K cd22 "does_fit" = true) (k22 : PySem.W.keepIn K (.ref f22) = true)
    (a23 : PySem.W.nsIn K mainGlobals "fits_roots" = some (some (.ref f23))) (l23 : K.lookup f23 = some ⟨oc23, od23, .func (PySem.W.fnOf "fits_roots" "fits_roots" (defArgs s_fits_roots) (defBody s_fits_roots) (defScope s_fits_roots) .none kV23 dc23 pm23 an23 cd23 ct23), sl23⟩) (c23 : PySem.W.codeIn K cd23 "fits_roots" = true) (k23 : PySem.W.keepIn K (.ref f23) = true)
    (a24 : PySem.W.nsIn K mainGlobals "more_special" = some (some (.ref f24))) (l24 : K.lookup f24 = some ⟨oc24, od24, .func (PySem.W.fnOf "more_special" "more_special" (defArgs s_more_special) (defBody s_more_special) (defScope s_more_special) .none kV24 dc24 pm24 an24 cd24 ct24), sl24⟩) (c24 : PySem.W.codeIn K cd24 "more_special" = true) (k24 : PySem.W.keepIn K (.ref f24) = true)
    (a25 : PySem.W.nsIn K mainGlobals "chosen_of" = some (some (.ref f25))) (l25 : K.lookup f25 = some ⟨oc25, od25, .func (PySem.W.fnOf "chosen_of" "chosen_of" (defArgs s_chosen_of) (defBody s_chosen_of) (defScope s_chosen_of) .none kV25 dc25 pm25 an25 cd25 ct25), sl25⟩) (c25 : PySem.W.codeIn K cd25 "chosen_of" = true) (k25 : PySem.W.keepIn K (.ref f25) = true)
    (a26 : PySem.W.nsIn K mainGlobals "fitting" = some (some (.ref f26))) (l26 : K.lookup f26 = some ⟨oc26, od26, .func (PySem.W.fnOf "fitting" "fitting" (defArgs s_fitting) (defBody s_fitting) (defScope s_fitting) .none kV26 dc26 pm26 an26 cd26 ct26), sl26⟩) (c26 : PySem.W.codeIn K cd26 "fitting" = true) (k26 : PySem.W.keepIn K (.ref f26) = true)
    (a27 : PySem.W.nsIn K mainGlobals "stands" = some (some (.ref f27))) (l27 : K.lookup f27 = some ⟨oc27, od27, .func (PySem.W.fnOf "stands" "stands" (defArgs s_stands) (defBody s_stands) (defScope s_stands) .none kV27 dc27 pm27 an27 cd27 ct27), sl27⟩) (c27 : PySem.W.codeIn K cd27 "stands" = true) (k27 : PySem.W.keepIn K (.ref f27) = true)
    (a28 : PySem.W.nsIn K mainGlobals "holds" = some (some (.ref f28))) (l28 : K.lookup f28 = some ⟨oc28, od28, .func (PySem.W.fnOf "holds" "holds" (defArgs s_holds) (defBody s_holds) (defScope s_holds) .none kV28 dc28 pm28 an28 cd28 ct28), sl28⟩) (c28 : PySem.W.codeIn K cd28 "holds" = true) (k28 : PySem.W.keepIn K (.ref f28) = true)
    (a29 : PySem.W.nsIn K mainGlobals "ends_from" = some (some (.ref f29))) (l29 : K.lookup f29 = some ⟨oc29, od29, .func (PySem.W.fnOf "ends_from" "ends_from" (defArgs s_ends_from) (defBody s_ends_from) (defScope s_ends_from) .none kV29 dc29 pm29 an29 cd29 ct29), sl29⟩) (c29 : PySem.W.codeIn K cd29 "ends_from" = true) (k29 : PySem.W.keepIn K (.ref f29) = true)
    (a30 : PySem.W.nsIn K mainGlobals "dead_ends" = some (some (.ref f30))) (l30 : K.lookup f30 = some ⟨oc30, od30, .func (PySem.W.fnOf "dead_ends" "dead_ends" (defArgs s_dead_ends) (defBody s_dead_ends) (defScope s_dead_ends) .none kV30 dc30 pm30 an30 cd30 ct30), sl30⟩) (c30 : PySem.W.codeIn K cd30 "dead_ends" = true) (k30 : PySem.W.keepIn K (.ref f30) = true)
    (a31 : PySem.W.nsIn K mainGlobals "do_overlap" = some (some (.ref f31))) (l31 : K.lookup f31 = some ⟨oc31, od31, .func (PySem.W.fnOf "do_overlap" "do_overlap" (defArgs s_do_overlap) (defBody s_do_overlap) (defScope s_do_overlap) .none kV31 dc31 pm31 an31 cd31 ct31), sl31⟩) (c31 : PySem.W.codeIn K cd31 "do_overlap" = true) (k31 : PySem.W.keepIn K (.ref f31) = true)
    (a32 : PySem.W.nsIn K mainGlobals "found_overlaps" = some (some (.ref f32))) (l32 : K.lookup f32 = some ⟨oc32, od32, .func (PySem.W.fnOf "found_overlaps" "found_overlaps" (defArgs s_found_overlaps) (defBody s_found_overlaps) (defScope s_found_overlaps) .none kV32 dc32 pm32 an32 cd32 ct32), sl32⟩) (c32 : PySem.W.codeIn K cd32 "found_overlaps" = true) (k32 : PySem.W.keepIn K (.ref f32) = true)
    (a33 : PySem.W.nsIn K mainGlobals "overlaps" = some (some (.ref f33))) (l33 : K.lookup f33 = some ⟨oc33, od33, .func (PySem.W.fnOf "overlaps" "overlaps" (defArgs s_overlaps) (defBody s_overlaps) (defScope s_overlaps) .none kV33 dc33 pm33 an33 cd33 ct33), sl33⟩) (c33 : PySem.W.codeIn K cd33 "overlaps" = true) (k33 : PySem.W.keepIn K (.ref f33) = true)
    (a34 : PySem.W.nsIn K mainGlobals "found_tangles" = some (some (.ref f34))) (l34 : K.lookup f34 = some ⟨oc34, od34, .func (PySem.W.fnOf "found_tangles" "found_tangles" (defArgs s_found_tangles) (defBody s_found_tangles) (defScope s_found_tangles) .none kV34 dc34 pm34 an34 cd34 ct34), sl34⟩) (c34 : PySem.W.codeIn K cd34 "found_tangles" = true) (k34 : PySem.W.keepIn K (.ref f34) = true)
    (a35 : PySem.W.nsIn K mainGlobals "tangles" = some (some (.ref f35))) (l35 : K.lookup f35 = some ⟨oc35, od35, .func (PySem.W.fnOf "tangles" "tangles" (defArgs s_tangles) (defBody s_tangles) (defScope s_tangles) .none kV35 dc35 pm35 an35 cd35 ct35), sl35⟩) (c35 : PySem.W.codeIn K cd35 "tangles" = true) (k35 : PySem.W.keepIn K (.ref f35) = true)
    (a36 : PySem.W.nsIn K mainGlobals "check_loose" = some (some (.ref f36))) (l36 : K.lookup f36 = some ⟨oc36, od36, .func (PySem.W.fnOf "check_loose" "check_loose" (defArgs s_check_loose) (defBody s_check_loose) (defScope s_check_loose) .none kV36 dc36 pm36 an36 cd36 ct36), sl36⟩) (c36 : PySem.W.codeIn K cd36 "check_loose" = true) (k36 : PySem.W.keepIn K (.ref f36) = true)
    (a37 : PySem.W.nsIn K mainGlobals "chosen_for" = some (some (.ref f37))) (l37 : K.lookup f37 = some ⟨oc37, od37, .func (PySem.W.fnOf "chosen_for" "chosen_for" (defArgs s_chosen_for) (defBody s_chosen_for) (defScope s_chosen_for) .none kV37 dc37 pm37 an37 cd37 ct37), sl37⟩) (c37 : PySem.W.codeIn K cd37 "chosen_for" = true) (k37 : PySem.W.keepIn K (.ref f37) = true)
    (a38 : PySem.W.nsIn K mainGlobals "chosen" = some (some (.ref f38))) (l38 : K.lookup f38 = some ⟨oc38, od38, .func (PySem.W.fnOf "chosen" "chosen" (defArgs s_chosen) (defBody s_chosen) (defScope s_chosen) .none kV38 dc38 pm38 an38 cd38 ct38), sl38⟩) (c38 : PySem.W.codeIn K cd38 "chosen" = true) (k38 : PySem.W.keepIn K (.ref f38) = true)
    (a39 : PySem.W.nsIn K mainGlobals "stands_specially" = some (some (.ref f39))) (l39 : K.lookup f39 = some ⟨oc39, od39, .func (PySem.W.fnOf "stands_specially" "stands_specially" (defArgs s_stands_specially) (defBody s_stands_specially) (defScope s_stands_specially) .none kV39 dc39 pm39 an39 cd39 ct39), sl39⟩) (c39 : PySem.W.codeIn K cd39 "stands_specially" = true) (k39 : PySem.W.keepIn K (.ref f39) = true)
    (a40 : PySem.W.nsIn K mainGlobals "holds_specially" = some (some (.ref f40))) (l40 : K.lookup f40 = some ⟨oc40, od40, .func (PySem.W.fnOf "holds_specially" "holds_specially" (defArgs s_holds_specially) (defBody s_holds_specially) (defScope s_holds_specially) .none kV40 dc40 pm40 an40 cd40 ct40), sl40⟩) (c40 : PySem.W.codeIn K cd40 "holds_specially" = true) (k40 : PySem.W.keepIn K (.ref f40) = true)
    (a41 : PySem.W.nsIn K mainGlobals "_law_town" = some (some (.ref f41))) (l41 : K.lookup f41 = some ⟨oc41, od41, .func (PySem.W.fnOf "_law_town" "_law_town" (defArgs s__law_town) (defBody s__law_town) (defScope s__law_town) .none kV41 dc41 pm41 an41 cd41 ct41), sl41⟩) (c41 : PySem.W.codeIn K cd41 "_law_town" = true) (k41 : PySem.W.keepIn K (.ref f41) = true)
    (a42 : PySem.W.nsIn K mainGlobals "_law_draw" = some (some (.ref f42))) (l42 : K.lookup f42 = some ⟨oc42, od42, .func (PySem.W.fnOf "_law_draw" "_law_draw" (defArgs s__law_draw) (defBody s__law_draw) (defScope s__law_draw) .none kV42 dc42 pm42 an42 cd42 ct42), sl42⟩) (c42 : PySem.W.codeIn K cd42 "_law_draw" = true) (k42 : PySem.W.keepIn K (.ref f42) = true)
    (a43 : PySem.W.nsIn K mainGlobals "_law_pick" = some (some (.ref f43))) (l43 : K.lookup f43 = some ⟨oc43, od43, .func (PySem.W.fnOf "_law_pick" "_law_pick" (defArgs s__law_pick) (defBody s__law_pick) (defScope s__law_pick) .none kV43 dc43 pm43 an43 cd43 ct43), sl43⟩) (c43 : PySem.W.codeIn K cd43 "_law_pick" = true) (k43 : PySem.W.keepIn K (.ref f43) = true)
    (a44 : PySem.W.nsIn K mainGlobals "_law_world" = some (some (.ref f44))) (l44 : K.lookup f44 = some ⟨oc44, od44, .func (PySem.W.fnOf "_law_world" "_law_world" (defArgs s__law_world) (defBody s__law_world) (defScope s__law_world) .none kV44 dc44 pm44 an44 cd44 ct44), sl44⟩) (c44 : PySem.W.codeIn K cd44 "_law_world" = true) (k44 : PySem.W.keepIn K (.ref f44) = true)
    (a45 : PySem.W.nsIn K mainGlobals "_law_traits" = some (some (.ref f45))) (l45 : K.lookup f45 = some ⟨oc45, od45, .func (PySem.W.fnOf "_law_traits" "_law_traits" (defArgs s__law_traits) (defBody s__law_traits) (defScope s__law_traits) .none kV45 dc45 pm45 an45 cd45 ct45), sl45⟩) (c45 : PySem.W.codeIn K cd45 "_law_traits" = true) (k45 : PySem.W.keepIn K (.ref f45) = true)
    (a46 : PySem.W.nsIn K mainGlobals "_law_body" = some (some (.ref f46))) (l46 : K.lookup f46 = some ⟨oc46, od46, .func (PySem.W.fnOf "_law_body" "_law_body" (defArgs s__law_body) (defBody s__law_body) (defScope s__law_body) .none kV46 dc46 pm46 an46 cd46 ct46), sl46⟩) (c46 : PySem.W.codeIn K cd46 "_law_body" = true) (k46 : PySem.W.keepIn K (.ref f46) = true)
    (a47 : PySem.W.nsIn K mainGlobals "_law_instance" = some (some (.ref f47))) (l47 : K.lookup f47 = some ⟨oc47, od47, .func (PySem.W.fnOf "_law_instance" "_law_instance" (defArgs s__law_instance) (defBody s__law_instance) (defScope s__law_instance) .none kV47 dc47 pm47 an47 cd47 ct47), sl47⟩) (c47 : PySem.W.codeIn K cd47 "_law_instance" = true) (k47 : PySem.W.keepIn K (.ref f47) = true)
    (a48 : PySem.W.nsIn K mainGlobals "_law_set" = some (some (.ref f48))) (l48 : K.lookup f48 = some ⟨oc48, od48, .func (PySem.W.fnOf "_law_set" "_law_set" (defArgs s__law_set) (defBody s__law_set) (defScope s__law_set) .none kV48 dc48 pm48 an48 cd48 ct48), sl48⟩) (c48 : PySem.W.codeIn K cd48 "_law_set" = true) (k48 : PySem.W.keepIn K (.ref f48) = true)
    (a49 : PySem.W.nsIn K mainGlobals "_law_sort" = some (some (.ref f49))) (l49 : K.lookup f49 = some ⟨oc49, od49, .func (PySem.W.fnOf "_law_sort" "_law_sort" (defArgs s__law_sort) (defBody s__law_sort) (defScope s__law_sort) .none kV49 dc49 pm49 an49 cd49 ct49), sl49⟩) (c49 : PySem.W.codeIn K cd49 "_law_sort" = true) (k49 : PySem.W.keepIn K (.ref f49) = true)
    (a50 : PySem.W.nsIn K mainGlobals "_law_fits" = some (some (.ref f50))) (l50 : K.lookup f50 = some ⟨oc50, od50, .func (PySem.W.fnOf "_law_fits" "_law_fits" (defArgs s__law_fits) (defBody s__law_fits) (defScope s__law_fits) .none kV50 dc50 pm50 an50 cd50 ct50), sl50⟩) (c50 : PySem.W.codeIn K cd50 "_law_fits" = true) (k50 : PySem.W.keepIn K (.ref f50) = true)
    (a51 : PySem.W.nsIn K mainGlobals "_law_loose" = some (some (.ref f51))) (l51 : K.lookup f51 = some ⟨oc51, od51, .func (PySem.W.fnOf "_law_loose" "_law_loose" (defArgs s__law_loose) (defBody s__law_loose) (defScope s__law_loose) .none kV51 dc51 pm51 an51 cd51 ct51), sl51⟩) (c51 : PySem.W.codeIn K cd51 "_law_loose" = true) (k51 : PySem.W.keepIn K (.ref f51) = true)
    (a52 : PySem.W.nsIn K mainGlobals "_law_best" = some (some (.ref f52))) (l52 : K.lookup f52 = some ⟨oc52, od52, .func (PySem.W.fnOf "_law_best" "_law_best" (defArgs s__law_best) (defBody s__law_best) (defScope s__law_best) .none kV52 dc52 pm52 an52 cd52 ct52), sl52⟩) (c52 : PySem.W.codeIn K cd52 "_law_best" = true) (k52 : PySem.W.keepIn K (.ref f52) = true)
    (a53 : PySem.W.nsIn K mainGlobals "_law_special" = some (some (.ref f53))) (l53 : K.lookup f53 = some ⟨oc53, od53, .func (PySem.W.fnOf "_law_special" "_law_special" (defArgs s__law_special) (defBody s__law_special) (defScope s__law_special) .none kV53 dc53 pm53 an53 cd53 ct53), sl53⟩) (c53 : PySem.W.codeIn K cd53 "_law_special" = true) (k53 : PySem.W.keepIn K (.ref f53) = true)
    (a54 : PySem.W.nsIn K mainGlobals "law" = some (some (.ref f54))) (l54 : K.lookup f54 = some ⟨oc54, od54, .func (PySem.W.fnOf "law" "law" (defArgs s_law) (defBody s_law) (defScope s_law) .none kV54 dc54 pm54 an54 cd54 ct54), sl54⟩) (c54 : PySem.W.codeIn K cd54 "law" = true) (k54 : PySem.W.keepIn K (.ref f54) = true)
    {tGREAT : Tok} (yGREAT : PySem.W.nsIn K mainGlobals "GREAT" = some (some (.str "ABCDEFGHIJKLMNOPQRSTUVWXYZ" tGREAT)))
    {tSMALL : Tok} (ySMALL : PySem.W.nsIn K mainGlobals "SMALL" = some (some (.str "abcdefghijklmnopqrstuvwxyz" tSMALL)))
    (zall : PySem.W.nsIn K mainGlobals "all" = some none)
    (zany : PySem.W.nsIn K mainGlobals "any" = some none)
    (zbool : PySem.W.nsIn K mainGlobals "bool" = some none)
    (zdict : PySem.W.nsIn K mainGlobals "dict" = some none)
    (zenumerate : PySem.W.nsIn K mainGlobals "enumerate" = some none)
    (zint : PySem.W.nsIn K mainGlobals "int" = some none)
    (zisinstance : PySem.W.nsIn K mainGlobals "isinstance" = some none)
    (zlen : PySem.W.nsIn K mainGlobals "len" = some none)
    (zlist : PySem.W.nsIn K mainGlobals "list" = some none)
    (zmax : PySem.W.nsIn K mainGlobals "max" = some none)
    (zrange : PySem.W.nsIn K mainGlobals "range" = some none)
    (zsorted : PySem.W.nsIn K mainGlobals "sorted" = some none)
    (zstr : PySem.W.nsIn K mainGlobals "str" = some none)
    (zsum : PySem.W.nsIn K mainGlobals "sum" = some none)
    (ztuple : PySem.W.nsIn K mainGlobals "tuple" = some none)
    (zzip : PySem.W.nsIn K mainGlobals "zip" = some none)
    : ∃ fd : FuncData, (∀ (s : Shared) (v : Value), BindsTo s fd ⟨[v], []⟩ [("_law_script", v)]) ∧ ∀ base : Heap, K.In base → base.Ns mainGlobals mg → FnOk l.prog w K mg base CX0 15 fa fd ["_law_script"] (spLaw K) := by
  have e := hfa.symm.trans (PySem.W.mg_of X G a54)
  cases e
  have F1 := fun_mk (st := s_is_between) l1 c1 k1
  have b1 := F1.binds (ps := ["value", "low", "high"]) fun _ _ _ _ _ _ us hl => match us, hl with | [_, _, _], _ => rfl
  have F2 := fun_mk (st := s_are_small) l2 c2 k2
  have b2 := F2.binds (ps := ["value", "low", "high"]) fun _ _ _ _ _ _ us hl => match us, hl with | [_, _, _], _ => rfl
  have F3 := fun_mk (st := s_is_constructor) l3 c3 k3
  have b3 := F3.binds (ps := ["value"]) fun _ _ _ _ _ _ us hl => match us, hl with | [_], _ => rfl
  have F4 := fun_mk (st := s_are_traits) l4 c4 k4
  have b4 := F4.binds (ps := ["value"]) fun _ _ _ _ _ _ us hl => match us, hl with | [_], _ => rfl
  have F5 := fun_mk (st := s_is_world) l5 c5 k5
  have b5 := F5.binds (ps := ["value"]) fun _ _ _ _ _ _ us hl => match us, hl with | [_], _ => rfl
  have F6 := fun_mk (st := s_check_world) l6 c6 k6
  have b6 := F6.binds (ps := ["value"]) fun _ _ _ _ _ _ us hl => match us, hl with | [_], _ => rfl
  have F7 := fun_mk (st := s_trait_names) l7 c7 k7
  have b7 := F7.binds (ps := ["world"]) fun _ _ _ _ _ _ us hl => match us, hl with | [_], _ => rfl
  have F8 := fun_mk (st := s_form_of) l8 c8 k8
  have b8 := F8.binds (ps := ["world", "trait"]) fun _ _ _ _ _ _ us hl => match us, hl with | [_, _], _ => rfl
  have F9 := fun_mk (st := s_is_sort_with) l9 c9 k9
  have b9 := F9.binds (ps := ["world", "value", "names"]) fun _ _ _ _ _ _ us hl => match us, hl with | [_, _, _], _ => rfl
  have F10 := fun_mk (st := s_size_in) l10 c10 k10
  have b10 := F10.binds (ps := ["sort"]) fun _ _ _ _ _ _ us hl => match us, hl with | [_], _ => rfl
  have F11 := fun_mk (st := s_check_sort) l11 c11 k11
  have b11 := F11.binds (ps := ["world", "sort", "names"]) fun _ _ _ _ _ _ us hl => match us, hl with | [_, _, _], _ => rfl
  have F12 := fun_mk (st := s_check_trait) l12 c12 k12
  have b12 := F12.binds (ps := ["world", "trait"]) fun _ _ _ _ _ _ us hl => match us, hl with | [_, _], _ => rfl
  have F13 := fun_mk (st := s_reckoned) l13 c13 k13
  have b13 := F13.binds (ps := ["value"]) fun _ _ _ _ _ _ us hl => match us, hl with | [_], _ => rfl
  have F14 := fun_mk (st := s_is_reckoning) l14 c14 k14
  have b14 := F14.binds (ps := ["world", "value", "parts"]) fun _ _ _ _ _ _ us hl => match us, hl with | [_, _, _], _ => rfl
  have F15 := fun_mk (st := s_is_short) l15 c15 k15
  have b15 := F15.binds (ps := ["world", "value", "parts"]) fun _ _ _ _ _ _ us hl => match us, hl with | [_, _, _], _ => rfl
  have F16 := fun_mk (st := s_is_body) l16 c16 k16
  have b16 := F16.binds (ps := ["world", "trait", "root", "value"]) fun _ _ _ _ _ _ us hl => match us, hl with | [_, _, _, _], _ => rfl
  have F17 := fun_mk (st := s_are_asks) l17 c17 k17
  have b17 := F17.binds (ps := ["world", "value", "parts"]) fun _ _ _ _ _ _ us hl => match us, hl with | [_, _, _], _ => rfl
  have F18 := fun_mk (st := s_is_known_instance) l18 c18 k18
  have b18 := F18.binds (ps := ["world", "value"]) fun _ _ _ _ _ _ us hl => match us, hl with | [_, _], _ => rfl
  have F19 := fun_mk (st := s_are_instances) l19 c19 k19
  have b19 := F19.binds (ps := ["world", "value", "most"]) fun _ _ _ _ _ _ us hl => match us, hl with | [_, _, _], _ => rfl
  have F20 := fun_mk (st := s_check_set) l20 c20 k20
  have b20 := F20.binds (ps := ["world", "instances"]) fun _ _ _ _ _ _ us hl => match us, hl with | [_, _], _ => rfl
  have F21 := fun_mk (st := s_check_ask) l21 c21 k21
  have b21 := F21.binds (ps := ["world", "instances", "trait", "sort"]) fun _ _ _ _ _ _ us hl => match us, hl with | [_, _, _, _], _ => rfl
  have F22 := fun_mk (st := s_does_fit) l22 c22 k22
  have b22 := F22.binds (ps := ["instance", "sort"]) fun _ _ _ _ _ _ us hl => match us, hl with | [_, _], _ => rfl
  have F23 := fun_mk (st := s_fits_roots) l23 c23 k23
  have b23 := F23.binds (ps := ["instance", "root", "roots"]) fun _ _ _ _ _ _ us hl => match us, hl with | [_, _, _], _ => rfl
  have F24 := fun_mk (st := s_more_special) l24 c24 k24
  have b24 := F24.binds (ps := ["one", "other"]) fun _ _ _ _ _ _ us hl => match us, hl with | [_, _], _ => rfl
  have F25 := fun_mk (st := s_chosen_of) l25 c25 k25
  have b25 := F25.binds (ps := ["instances", "trait", "root", "roots"]) fun _ _ _ _ _ _ us hl => match us, hl with | [_, _, _, _], _ => rfl
  have F26 := fun_mk (st := s_fitting) l26 c26 k26
  have b26 := F26.binds (ps := ["instances", "trait", "sort"]) fun _ _ _ _ _ _ us hl => match us, hl with | [_, _, _], _ => rfl
  have F27 := fun_mk (st := s_stands) l27 c27 k27
  have b27 := F27.binds (ps := ["instances", "trait", "sort"]) fun _ _ _ _ _ _ us hl => match us, hl with | [_, _, _], _ => rfl
  have F28 := fun_mk (st := s_holds) l28 c28 k28
  have b28 := F28.binds (ps := ["world", "instances", "trait", "sort"]) fun _ _ _ _ _ _ us hl => match us, hl with | [_, _, _, _], _ => rfl
  have F29 := fun_mk (st := s_ends_from) l29 c29 k29
  have b29 := F29.binds (ps := ["instances", "trait", "sort"]) fun _ _ _ _ _ _ us hl => match us, hl with | [_, _, _], _ => rfl
  have F30 := fun_mk (st := s_dead_ends) l30 c30 k30
  have b30 := F30.binds (ps := ["world", "instances", "trait", "sort"]) fun _ _ _ _ _ _ us hl => match us, hl with | [_, _, _, _], _ => rfl
  have F31 := fun_mk (st := s_do_overlap) l31 c31 k31
  have b31 := F31.binds (ps := ["one", "other"]) fun _ _ _ _ _ _ us hl => match us, hl with | [_, _], _ => rfl
  have F32 := fun_mk (st := s_found_overlaps) l32 c32 k32
  have b32 := F32.binds (ps := ["instances"]) fun _ _ _ _ _ _ us hl => match us, hl with | [_], _ => rfl
  have F33 := fun_mk (st := s_overlaps) l33 c33 k33
  have b33 := F33.binds (ps := ["world", "instances"]) fun _ _ _ _ _ _ us hl => match us, hl with | [_, _], _ => rfl
  have F34 := fun_mk (st := s_found_tangles) l34 c34 k34
  have b34 := F34.binds (ps := ["instances"]) fun _ _ _ _ _ _ us hl => match us, hl with | [_], _ => rfl
  have F35 := fun_mk (st := s_tangles) l35 c35 k35
  have b35 := F35.binds (ps := ["world", "instances"]) fun _ _ _ _ _ _ us hl => match us, hl with | [_, _], _ => rfl
  have F36 := fun_mk (st := s_check_loose) l36 c36 k36
  have b36 := F36.binds (ps := ["instances"]) fun _ _ _ _ _ _ us hl => match us, hl with | [_], _ => rfl
  have F37 := fun_mk (st := s_chosen_for) l37 c37 k37
  have b37 := F37.binds (ps := ["instances", "trait", "sort"]) fun _ _ _ _ _ _ us hl => match us, hl with | [_, _, _], _ => rfl
  have F38 := fun_mk (st := s_chosen) l38 c38 k38
  have b38 := F38.binds (ps := ["world", "instances", "trait", "sort"]) fun _ _ _ _ _ _ us hl => match us, hl with | [_, _, _, _], _ => rfl
  have F39 := fun_mk (st := s_stands_specially) l39 c39 k39
  have b39 := F39.binds (ps := ["instances", "trait", "sort"]) fun _ _ _ _ _ _ us hl => match us, hl with | [_, _, _], _ => rfl
  have F40 := fun_mk (st := s_holds_specially) l40 c40 k40
  have b40 := F40.binds (ps := ["world", "instances", "trait", "sort"]) fun _ _ _ _ _ _ us hl => match us, hl with | [_, _, _, _], _ => rfl
  have F41 := fun_mk (st := s__law_town) l41 c41 k41
  have b41 := F41.binds (ps := ["_law_script"]) fun _ _ _ _ _ _ us hl => match us, hl with | [_], _ => rfl
  have F42 := fun_mk (st := s__law_draw) l42 c42 k42
  have b42 := F42.binds (ps := ["_law_script", "_law_town_here", "_law_limit"]) fun _ _ _ _ _ _ us hl => match us, hl with | [_, _, _], _ => rfl
  have F43 := fun_mk (st := s__law_pick) l43 c43 k43
  have b43 := F43.binds (ps := ["_law_script", "_law_town_here", "_law_choices"]) fun _ _ _ _ _ _ us hl => match us, hl with | [_, _, _], _ => rfl
  have F44 := fun_mk (st := s__law_world) l44 c44 k44
  have b44 := F44.binds (ps := ["_law_script", "_law_town_here"]) fun _ _ _ _ _ _ us hl => match us, hl with | [_, _], _ => rfl
  have F45 := fun_mk (st := s__law_traits) l45 c45 k45
  have b45 := F45.binds (ps := ["_law_world_here"]) fun _ _ _ _ _ _ us hl => match us, hl with | [_], _ => rfl
  have F46 := fun_mk (st := s__law_body) l46 c46 k46
  have b46 := F46.binds (ps := ["_law_script", "_law_town_here", "_law_world_here", "_law_trait", "_law_parts", "_law_asks"]) fun _ _ _ _ _ _ us hl => match us, hl with | [_, _, _, _, _, _], _ => rfl
  have F47 := fun_mk (st := s__law_instance) l47 c47 k47
  have b47 := F47.binds (ps := ["_law_script", "_law_town_here", "_law_world_here"]) fun _ _ _ _ _ _ us hl => match us, hl with | [_, _, _], _ => rfl
  have F48 := fun_mk (st := s__law_set) l48 c48 k48
  have b48 := F48.binds (ps := ["_law_script", "_law_town_here", "_law_world_here", "_law_most"]) fun _ _ _ _ _ _ us hl => match us, hl with | [_, _, _, _], _ => rfl
  have F49 := fun_mk (st := s__law_sort) l49 c49 k49
  have b49 := F49.binds (ps := ["_law_script", "_law_town_here", "_law_world_here", "_law_depth"]) fun _ _ _ _ _ _ us hl => match us, hl with | [_, _, _, _], _ => rfl
  have F50 := fun_mk (st := s__law_fits) l50 c50 k50
  have b50 := F50.binds (ps := ["_law_instance_here", "_law_sort_here"]) fun _ _ _ _ _ _ us hl => match us, hl with | [_, _], _ => rfl
  have F51 := fun_mk (st := s__law_loose) l51 c51 k51
  have b51 := F51.binds (ps := ["_law_script", "_law_town_here", "_law_world_here"]) fun _ _ _ _ _ _ us hl => match us, hl with | [_, _, _], _ => rfl
  have F52 := fun_mk (st := s__law_best) l52 c52 k52
  have b52 := F52.binds (ps := ["_law_instances", "_law_trait", "_law_sort_here"]) fun _ _ _ _ _ _ us hl => match us, hl with | [_, _, _], _ => rfl
  have F53 := fun_mk (st := s__law_special) l53 c53 k53
  have b53 := F53.binds (ps := ["_law_instances", "_law_trait", "_law_sort_here"]) fun _ _ _ _ _ _ us hl => match us, hl with | [_, _, _], _ => rfl
  have F54 := fun_mk (st := s_law) l54 c54 k54
  have b54 := F54.binds (ps := ["_law_script"]) fun _ _ _ _ _ _ us hl => match us, hl with | [_], _ => rfl
  let T : Tb K mg := { g_all := PySem.W.mg_none_of X G zall, g_any := PySem.W.mg_none_of X G zany, g_bool := PySem.W.mg_none_of X G zbool, g_dict := PySem.W.mg_none_of X G zdict, g_enumerate := PySem.W.mg_none_of X G zenumerate, g_int := PySem.W.mg_none_of X G zint, g_isinstance := PySem.W.mg_none_of X G zisinstance, g_len := PySem.W.mg_none_of X G zlen, g_list := PySem.W.mg_none_of X G zlist, g_max := PySem.W.mg_none_of X G zmax, g_range := PySem.W.mg_none_of X G zrange, g_sorted := PySem.W.mg_none_of X G zsorted, g_str := PySem.W.mg_none_of X G zstr, g_sum := PySem.W.mg_none_of X G zsum, g_tuple := PySem.W.mg_none_of X G ztuple, g_zip := PySem.W.mg_none_of X G zzip, k_GREAT := tGREAT, c_GREAT := PySem.W.mg_of X G yGREAT, k_SMALL := tSMALL, c_SMALL := PySem.W.mg_of X G ySMALL, is_between := ⟨_, _, F1, b1, PySem.W.mg_of X G a1⟩, are_small := ⟨_, _, F2, b2, PySem.W.mg_of X G a2⟩, is_constructor := ⟨_, _, F3, b3, PySem.W.mg_of X G a3⟩, are_traits := ⟨_, _, F4, b4, PySem.W.mg_of X G a4⟩, is_world := ⟨_, _, F5, b5, PySem.W.mg_of X G a5⟩, check_world := ⟨_, _, F6, b6, PySem.W.mg_of X G a6⟩, trait_names := ⟨_, _, F7, b7, PySem.W.mg_of X G a7⟩, form_of := ⟨_, _, F8, b8, PySem.W.mg_of X G a8⟩, is_sort_with := ⟨_, _, F9, b9, PySem.W.mg_of X G a9⟩, size_in := ⟨_, _, F10, b10, PySem.W.mg_of X G a10⟩, check_sort := ⟨_, _, F11, b11, PySem.W.mg_of X G a11⟩, check_trait := ⟨_, _, F12, b12, PySem.W.mg_of X G a12⟩, reckoned := ⟨_, _, F13, b13, PySem.W.mg_of X G a13⟩, is_reckoning := ⟨_, _, F14, b14, PySem.W.mg_of X G a14⟩, is_short := ⟨_, _, F15, b15, PySem.W.mg_of X G a15⟩, is_body := ⟨_, _, F16, b16, PySem.W.mg_of X G a16⟩, are_asks := ⟨_, _, F17, b17, PySem.W.mg_of X G a17⟩, is_known_instance := ⟨_, _, F18, b18, PySem.W.mg_of X G a18⟩, are_instances := ⟨_, _, F19, b19, PySem.W.mg_of X G a19⟩, check_set := ⟨_, _, F20, b20, PySem.W.mg_of X G a20⟩, check_ask := ⟨_, _, F21, b21, PySem.W.mg_of X G a21⟩, does_fit := ⟨_, _, F22, b22, PySem.W.mg_of X G a22⟩, fits_roots := ⟨_, _, F23, b23, PySem.W.mg_of X G a23⟩, more_special := ⟨_, _, F24, b24, PySem.W.mg_of X G a24⟩, chosen_of := ⟨_, _, F25, b25, PySem.W.mg_of X G a25⟩, fitting := ⟨_, _, F26, b26, PySem.W.mg_of X G a26⟩, stands := ⟨_, _, F27, b27, PySem.W.mg_of X G a27⟩, holds := ⟨_, _, F28, b28, PySem.W.mg_of X G a28⟩, ends_from := ⟨_, _, F29, b29, PySem.W.mg_of X G a29⟩, dead_ends := ⟨_, _, F30, b30, PySem.W.mg_of X G a30⟩, do_overlap := ⟨_, _, F31, b31, PySem.W.mg_of X G a31⟩, found_overlaps := ⟨_, _, F32, b32, PySem.W.mg_of X G a32⟩, overlaps := ⟨_, _, F33, b33, PySem.W.mg_of X G a33⟩, found_tangles := ⟨_, _, F34, b34, PySem.W.mg_of X G a34⟩, tangles := ⟨_, _, F35, b35, PySem.W.mg_of X G a35⟩, check_loose := ⟨_, _, F36, b36, PySem.W.mg_of X G a36⟩, chosen_for := ⟨_, _, F37, b37, PySem.W.mg_of X G a37⟩, chosen := ⟨_, _, F38, b38, PySem.W.mg_of X G a38⟩, stands_specially := ⟨_, _, F39, b39, PySem.W.mg_of X G a39⟩, holds_specially := ⟨_, _, F40, b40, PySem.W.mg_of X G a40⟩, _law_town := ⟨_, _, F41, b41, PySem.W.mg_of X G a41⟩, _law_draw := ⟨_, _, F42, b42, PySem.W.mg_of X G a42⟩, _law_pick := ⟨_, _, F43, b43, PySem.W.mg_of X G a43⟩, _law_world := ⟨_, _, F44, b44, PySem.W.mg_of X G a44⟩, _law_traits := ⟨_, _, F45, b45, PySem.W.mg_of X G a45⟩, _law_body := ⟨_, _, F46, b46, PySem.W.mg_of X G a46⟩, _law_instance := ⟨_, _, F47, b47, PySem.W.mg_of X G a47⟩, _law_set := ⟨_, _, F48, b48, PySem.W.mg_of X G a48⟩, _law_sort := ⟨_, _, F49, b49, PySem.W.mg_of X G a49⟩, _law_fits := ⟨_, _, F50, b50, PySem.W.mg_of X G a50⟩, _law_loose := ⟨_, _, F51, b51, PySem.W.mg_of X G a51⟩, _law_best := ⟨_, _, F52, b52, PySem.W.mg_of X G a52⟩, _law_special := ⟨_, _, F53, b53, PySem.W.mg_of X G a53⟩, law := ⟨_, _, F54, b54, PySem.W.mg_of X G a54⟩ }
  exact ⟨_, fun s v => .of_eq rfl, fun base _ _ => ok_law (P := l.prog) (w := w) (base := base) T⟩
theorem law_start {K : PySem.W.Frag} {H : Hp} {a : Addr} {ns : List Int} (hl : ns.length ≤ 63) (hS : SqL K H a (ns.map V.int)) : spLaw K [.ref a] H (fun v _ => v = .bl true) fun _ _ _ => False := by
  have hd : ∀ ns : List Int, DpAll K H (ns.map V.int) (ns.map PyData.int) := fun ns => by
    induction ns with
    | nil => exact .nil
    | cons n ns ih => exact .cons (.int n) ih
  exact ⟨H, .ref a, ns, rfl, Same.refl H, .lst hS (hd ns), by omega, fun _ => rfl⟩
end Ts
open PySem PySem.W PyProof.Rows
set_option maxRecDepth 100000 in
set_option maxHeartbeats 0 in
theorem PySem.Challenge.cw_traitsure_k41_whole_choices_holds : PySem.Challenge.rw_traitsure_k41_whole_choices.Holds := by
  w_on; o_law; k_head; (case hw => w_witness2)
  k_fill
  refine L2.walk_of (l := PySem.Challenge.rw_traitsure_k41_whole_choices) (n := 63) (k := 15) (x := "_law_script") (CX := fun _ => L2.CX0) (sp := fun w => Ts.spLaw _) rfl (by decide) rfl ⟨rfl, by decide, by decide⟩ (fun w h Y => PySem.W.kIn_of Y) ?F (fun _ _ a ns hl _ hS => Ts.law_start hl hS) (fun _ _ _ _ _ z => z)
  case F =>
    intro w mg fa h KX G hmg
    refine' Ts.all_mk KX G hmg ?a1 ?l1 ?c1 ?k1 ?a2 ?l2 ?c2 ?k2 ?a3 ?l3 ?c3 ?k3 ?a4 ?l4 ?c4 ?k4 ?a5 ?l5 ?c5 ?k5 ?a6 ?l6 ?c6 ?k6 ?a7 ?l7 ?c7 ?k7 ?a8 ?l8 ?c8 ?k8 ?a9 ?l9 ?c9 ?k9 ?a10 ?l10 ?c10 ?k10 ?a11 ?l11 ?c11 ?k11 ?a12 ?l12 ?c12 ?k12 ?a13 ?l13 ?c13 ?k13 ?a14 ?l14 ?c14 ?k14 ?a15 ?l15 ?c15 ?k15 ?a16 ?l16 ?c16 ?k16 ?a17 ?l17 ?c17 ?k17 ?a18 ?l18 ?c18 ?k18 ?a19 ?l19 ?c19 ?k19 ?a20 ?l20 ?c20 ?k20 ?a21 ?l21 ?c21 ?k21 ?a22 ?l22 ?c22 ?k22 ?a23 ?l23 ?c23 ?k23 ?a24 ?l24 ?c24 ?k24 ?a25 ?l25 ?c25 ?k25 ?a26 ?l26 ?c26 ?k26 ?a27 ?l27 ?c27 ?k27 ?a28 ?l28 ?c28 ?k28 ?a29 ?l29 ?c29 ?k29 ?a30 ?l30 ?c30 ?k30 ?a31 ?l31 ?c31 ?k31 ?a32 ?l32 ?c32 ?k32 ?a33 ?l33 ?c33 ?k33 ?a34 ?l34 ?c34 ?k34 ?a35 ?l35 ?c35 ?k35 ?a36 ?l36 ?c36 ?k36 ?a37 ?l37 ?c37 ?k37 ?a38 ?l38 ?c38 ?k38 ?a39 ?l39 ?c39 ?k39 ?a40 ?l40 ?c40 ?k40 ?a41 ?l41 ?c41 ?k41 ?a42 ?l42 ?c42 ?k42 ?a43 ?l43 ?c43 ?k43 ?a44 ?l44 ?c44 ?k44 ?a45 ?l45 ?c45 ?k45 ?a46 ?l46 ?c46 ?k46 ?a47 ?l47 ?c47 ?k47 ?a48 ?l48 ?c48 ?k48 ?a49 ?l49 ?c49 ?k49 ?a50 ?l50 ?c50 ?k50 ?a51 ?l51 ?c51 ?k51 ?a52 ?l52 ?c52 ?k52 ?a53 ?l53 ?c53 ?k53 ?a54 ?l54 ?c54 ?k54 ?yGREAT ?ySMALL ?zall ?zany ?zbool ?zdict ?zenumerate ?zint ?zisinstance ?zlen ?zlist ?zmax ?zrange ?zsorted ?zstr ?zsum ?ztuple ?zzip
    (case a1 => k_is); (case l1 => k_is); (case c1 => k_is); (case k1 => k_is)
    (case a2 => k_is); (case l2 => k_is); (case c2 => k_is); (case k2 => k_is)
    (case a3 => k_is); (case l3 => k_is); (case c3 => k_is); (case k3 => k_is)
    (case a4 => k_is); (case l4 => k_is); (case c4 => k_is); (case k4 => k_is)
    (case a5 => k_is); (case l5 => k_is); (case c5 => k_is); (case k5 => k_is)
    (case a6 => k_is); (case l6 => k_is); (case c6 => k_is); (case k6 => k_is)
    (case a7 => k_is); (case l7 => k_is); (case c7 => k_is); (case k7 => k_is)
    (case a8 => k_is); (case l8 => k_is); (case c8 => k_is); (case k8 => k_is)
    (case a9 => k_is); (case l9 => k_is); (case c9 => k_is); (case k9 => k_is)
    (case a10 => k_is); (case l10 => k_is); (case c10 => k_is); (case k10 => k_is)
    (case a11 => k_is); (case l11 => k_is); (case c11 => k_is); (case k11 => k_is)
    (case a12 => k_is); (case l12 => k_is); (case c12 => k_is); (case k12 => k_is)
    (case a13 => k_is); (case l13 => k_is); (case c13 => k_is); (case k13 => k_is)
    (case a14 => k_is); (case l14 => k_is); (case c14 => k_is); (case k14 => k_is)
    (case a15 => k_is); (case l15 => k_is); (case c15 => k_is); (case k15 => k_is)
    (case a16 => k_is); (case l16 => k_is); (case c16 => k_is); (case k16 => k_is)
    (case a17 => k_is); (case l17 => k_is); (case c17 => k_is); (case k17 => k_is)
    (case a18 => k_is); (case l18 => k_is); (case c18 => k_is); (case k18 => k_is)
    (case a19 => k_is); (case l19 => k_is); (case c19 => k_is); (case k19 => k_is)
    (case a20 => k_is); (case l20 => k_is); (case c20 => k_is); (case k20 => k_is)
    (case a21 => k_is); (case l21 => k_is); (case c21 => k_is); (case k21 => k_is)
    (case a22 => k_is); (case l22 => k_is); (case c22 => k_is); (case k22 => k_is)
    (case a23 => k_is); (case l23 => k_is); (case c23 => k_is); (case k23 => k_is)
    (case a24 => k_is); (case l24 => k_is); (case c24 => k_is); (case k24 => k_is)
    (case a25 => k_is); (case l25 => k_is); (case c25 => k_is); (case k25 => k_is)
    (case a26 => k_is); (case l26 => k_is); (case c26 => k_is); (case k26 => k_is)
    (case a27 => k_is); (case l27 => k_is); (case c27 => k_is); (case k27 => k_is)
    (case a28 => k_is); (case l28 => k_is); (case c28 => k_is); (case k28 => k_is)
    (case a29 => k_is); (case l29 => k_is); (case c29 => k_is); (case k29 => k_is)
    (case a30 => k_is); (case l30 => k_is); (case c30 => k_is); (case k30 => k_is)
    (case a31 => k_is); (case l31 => k_is); (case c31 => k_is); (case k31 => k_is)
    (case a32 => k_is); (case l32 => k_is); (case c32 => k_is); (case k32 => k_is)
    (case a33 => k_is); (case l33 => k_is); (case c33 => k_is); (case k33 => k_is)
    (case a34 => k_is); (case l34 => k_is); (case c34 => k_is); (case k34 => k_is)
    (case a35 => k_is); (case l35 => k_is); (case c35 => k_is); (case k35 => k_is)
    (case a36 => k_is); (case l36 => k_is); (case c36 => k_is); (case k36 => k_is)
    (case a37 => k_is); (case l37 => k_is); (case c37 => k_is); (case k37 => k_is)
    (case a38 => k_is); (case l38 => k_is); (case c38 => k_is); (case k38 => k_is)
    (case a39 => k_is); (case l39 => k_is); (case c39 => k_is); (case k39 => k_is)
    (case a40 => k_is); (case l40 => k_is); (case c40 => k_is); (case k40 => k_is)
    (case a41 => k_is); (case l41 => k_is); (case c41 => k_is); (case k41 => k_is)
    (case a42 => k_is); (case l42 => k_is); (case c42 => k_is); (case k42 => k_is)
    (case a43 => k_is); (case l43 => k_is); (case c43 => k_is); (case k43 => k_is)
    (case a44 => k_is); (case l44 => k_is); (case c44 => k_is); (case k44 => k_is)
    (case a45 => k_is); (case l45 => k_is); (case c45 => k_is); (case k45 => k_is)
    (case a46 => k_is); (case l46 => k_is); (case c46 => k_is); (case k46 => k_is)
    (case a47 => k_is); (case l47 => k_is); (case c47 => k_is); (case k47 => k_is)
    (case a48 => k_is); (case l48 => k_is); (case c48 => k_is); (case k48 => k_is)
    (case a49 => k_is); (case l49 => k_is); (case c49 => k_is); (case k49 => k_is)
    (case a50 => k_is); (case l50 => k_is); (case c50 => k_is); (case k50 => k_is)
    (case a51 => k_is); (case l51 => k_is); (case c51 => k_is); (case k51 => k_is)
    (case a52 => k_is); (case l52 => k_is); (case c52 => k_is); (case k52 => k_is)
    (case a53 => k_is); (case l53 => k_is); (case c53 => k_is); (case k53 => k_is)
    (case a54 => k_is); (case l54 => k_is); (case c54 => k_is); (case k54 => k_is)
    (case yGREAT => k_is)
    (case ySMALL => k_is)
    (case zall => k_is)
    (case zany => k_is)
    (case zbool => k_is)
    (case zdict => k_is)
    (case zenumerate => k_is)
    (case zint => k_is)
    (case zisinstance => k_is)
    (case zlen => k_is)
    (case zlist => k_is)
    (case zmax => k_is)
    (case zrange => k_is)
    (case zsorted => k_is)
    (case zstr => k_is)
    (case zsum => k_is)
    (case ztuple => k_is)
    (case zzip => k_is)
