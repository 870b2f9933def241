import PyProof.Rows.All
import Wide.All
import OpenK.AllK
import Wide.FinOn
import HandS.ForMost
import HandS.Evl
import HandS.IsInst
import HandS.Wide
import HandS.Style
import HandS.Sort
import HandS.Flt
import HandS.Conv
import HandS.Exc
import HandS.Defaults
import HandS.Head0
import HandS.Head1
import HandS.Head2
import HandS.HeadEnd
import HandS.HeadHook1
import HandS.HeadHook2
import HandS.WordsDict
import HandS.Zip
import HandS.Iter
import HandS.Codes
import HandS.SortInts
import HandS.TupAny
import HandS.TupMul
import HandS.TupSets
import KE.KTupSum
import PySem.Challenge.RW_whoeverbegins_k22_whole_pairs_grow_from
set_option Elab.async false
set_option linter.all false
set_option maxRecDepth 100000
set_option maxHeartbeats 2000000
/-! PL: a layer of pure values over the hand layer. Values are trees; what changes lies in cells. -/
namespace PL
open PySem PySem.Spec PyProof.Rows L2 Evl

inductive P where
  | non | bl (b : Bool) | int (i : Int) | str (s : Str) | tup (xs : List P) | lst (xs : List P) | klst (xs : List P) | rng (lo hi : Int) | cell (n : Nat) | ty (n : String)

mutual
inductive Rep (K : PySem.W.Frag) (F : Hp) (as : List Addr) : V → P → Prop
  | non : Rep K F as .non .non
  | bl (b : Bool) : Rep K F as (.bl b) (.bl b)
  | int (i : Int) : Rep K F as (.int i) (.int i)
  | str (s : Str) : Rep K F as (.str s) (.str s)
  | tup {a : Addr} {xs : List V} {ps : List P} : SqT K F a xs → Reps K F as xs ps → Rep K F as (.ref a) (.tup ps)
  | lst {a : Addr} {xs : List V} {ps : List P} : F a = some (.lst xs) → Reps K F as xs ps → Rep K F as (.ref a) (.lst ps)
  | klst {a : Addr} {xs : List V} {ps : List P} : SqL K F a xs → Reps K F as xs ps → Rep K F as (.ref a) (.klst ps)
  | rng {a : Addr} {lo hi : Int} : F a = some (.rng lo hi) → Rep K F as (.ref a) (.rng lo hi)
  | cell {n : Nat} {a : Addr} : as[n]? = some a → Rep K F as (.ref a) (.cell n)
  | ty (n : String) : Rep K F as (.ty n) (.ty n)
inductive Reps (K : PySem.W.Frag) (F : Hp) (as : List Addr) : List V → List P → Prop
  | nil : Reps K F as [] []
  | cons {v : V} {vs : List V} {p : P} {ps : List P} : Rep K F as v p → Reps K F as vs ps → Reps K F as (v :: vs) (p :: ps)
end

section
variable {K : PySem.W.Frag} {F F' H H' : Hp} {as as' : List Addr}
theorem pre_get {as as' : List Addr} (h : as <+: as') {n : Nat} {a : Addr} (e : as[n]? = some a) : as'[n]? = some a := by
  obtain ⟨t, rfl⟩ := h
  rw [List.getElem?_append_left (List.getElem?_eq_some_iff.mp e).1]
  exact e
mutual
theorem Rep.mono (hf : Ex F F') (hp : as <+: as') : ∀ {p : P} {v : V}, Rep K F as v p → Rep K F' as' v p
  | .non, _, h => by cases h; exact .non
  | .bl b, _, h => by cases h; exact .bl b
  | .int i, _, h => by cases h; exact .int i
  | .str s, _, h => by cases h; exact .str s
  | .tup ps, _, h => by
    cases h with
    | tup h1 h2 => exact .tup (ex_t hf h1) (Reps.mono hf hp h2)
  | .lst ps, _, h => by
    cases h with
    | lst h1 h2 => exact .lst (hf _ _ h1) (Reps.mono hf hp h2)
  | .klst ps, _, h => by
    cases h with
    | klst h1 h2 => exact .klst (ex_l hf h1) (Reps.mono hf hp h2)
  | .rng lo hi, _, h => by
    cases h with
    | rng h1 => exact .rng (hf _ _ h1)
  | .cell n, _, h => by
    cases h with
    | cell h1 => exact .cell (pre_get hp h1)
  | .ty n, _, h => by cases h; exact .ty n
theorem Reps.mono (hf : Ex F F') (hp : as <+: as') : ∀ {ps : List P} {vs : List V}, Reps K F as vs ps → Reps K F' as' vs ps
  | [], _, h => by cases h; exact .nil
  | p :: ps, _, h => by
    cases h with
    | cons h1 h2 => exact .cons (Rep.mono hf hp h1) (Reps.mono hf hp h2)
end
theorem Reps.length : ∀ {ps : List P} {vs : List V}, Reps K F as vs ps → vs.length = ps.length
  | [], _, h => by cases h; rfl
  | p :: ps, _, h => by
    cases h with
    | cons h1 h2 => rw [List.length_cons, List.length_cons, Reps.length h2]
theorem Reps.get : ∀ {ps : List P} {vs : List V} {i : Nat} {p : P}, Reps K F as vs ps → ps[i]? = some p → ∃ v, vs[i]? = some v ∧ Rep K F as v p
  | [], _, _, _, _, e => by simp at e
  | q :: ps, _, 0, p, h, e => by
    cases h with
    | cons h1 h2 => 
      simp at e; subst e
      exact ⟨_, rfl, h1⟩
  | q :: ps, _, i + 1, p, h, e => by
    cases h with
    | cons h1 h2 =>
      obtain ⟨v, e1, e2⟩ := Reps.get (i := i) h2 (by simpa using e)
      exact ⟨v, by simpa using e1, e2⟩
theorem Reps.append : ∀ {ps qs : List P} {vs ws : List V}, Reps K F as vs ps → Reps K F as ws qs → Reps K F as (vs ++ ws) (ps ++ qs)
  | [], _, _, _, h, g => by cases h; exact g
  | _ :: _, _, _, _, h, g => by
    cases h with
    | cons h1 h2 => exact .cons h1 (Reps.append h2 g)
theorem Reps.set {v : V} {p : P} (r : Rep K F as v p) : ∀ {ps : List P} {vs : List V} (i : Nat), Reps K F as vs ps → Reps K F as (vs.set i v) (ps.set i p)
  | [], _, _, h => by cases h; exact .nil
  | _ :: _, _, 0, h => by
    cases h with
    | cons h1 h2 => exact .cons r h2
  | _ :: _, _, i + 1, h => by
    cases h with
    | cons h1 h2 => exact .cons h1 (Reps.set r i h2)
theorem Reps.take : ∀ {ps : List P} {vs : List V} (n : Nat), Reps K F as vs ps → Reps K F as (vs.take n) (ps.take n)
  | _, _, 0, _ => by simp only [List.take_zero]; exact .nil
  | [], _, _ + 1, h => by cases h; exact .nil
  | _ :: _, _, n + 1, h => by
    cases h with
    | cons h1 h2 => exact .cons h1 (Reps.take n h2)
theorem Reps.drop : ∀ {ps : List P} {vs : List V} (n : Nat), Reps K F as vs ps → Reps K F as (vs.drop n) (ps.drop n)
  | _, _, 0, h => h
  | [], _, _ + 1, h => by cases h; exact .nil
  | _ :: _, _, n + 1, h => by
    cases h with
    | cons h1 h2 => exact Reps.drop n h2
theorem Reps.reverse : ∀ {ps : List P} {vs : List V}, Reps K F as vs ps → Reps K F as vs.reverse ps.reverse
  | [], _, h => by cases h; exact .nil
  | _ :: _, _, h => by
    cases h with
    | cons h1 h2 =>
      rw [List.reverse_cons, List.reverse_cons]
      exact Reps.append (Reps.reverse h2) (.cons h1 .nil)
theorem Reps.ints : ∀ {ns : List Int} {vs : List V}, Reps K F as vs (ns.map P.int) → vs = ns.map V.int
  | [], _, h => by cases h; rfl
  | n :: ns, _, h => by
    cases h with
    | cons h1 h2 =>
      cases h1
      rw [Reps.ints h2]; rfl
theorem Reps.bls : ∀ {ns : List Bool} {vs : List V}, Reps K F as vs (ns.map P.bl) → vs = ns.map V.bl
  | [], _, h => by cases h; rfl
  | n :: ns, _, h => by
    cases h with
    | cons h1 h2 =>
      cases h1
      rw [Reps.bls h2]; rfl
theorem Reps.of_ints : ∀ (ns : List Int), Reps K F as (ns.map V.int) (ns.map P.int)
  | [] => .nil
  | n :: ns => .cons (.int n) (Reps.of_ints ns)
end

theorem nodup_ix : ∀ {as : List Addr} {n m : Nat} {a : Addr}, as.Nodup → as[n]? = some a → as[m]? = some a → n = m
  | [], _, _, _, _, h, _ => by simp at h
  | x :: r, 0, 0, _, _, _, _ => rfl
  | x :: r, 0, m + 1, a, nd, h, g => by
    simp at h g; subst h
    exact absurd (List.mem_of_getElem? g) (List.nodup_cons.mp nd).1
  | x :: r, n + 1, 0, a, nd, h, g => by
    simp at h g; subst g
    exact absurd (List.mem_of_getElem? h) (List.nodup_cons.mp nd).1
  | x :: r, n + 1, m + 1, a, nd, h, g => by
    simp at h g
    rw [nodup_ix (List.nodup_cons.mp nd).2 h g]

/-! ### cells -/
inductive Ob where
  | lst (xs : List P) | dK (kvs : List (Key × P)) | ins (C : Addr) (fs : List (Str × P)) | dead

def RepKs (K : PySem.W.Frag) (F : Hp) (as : List Addr) (xs : List (Key × V)) (ps : List (Key × P)) : Prop := xs.map (·.1) = ps.map (·.1) ∧ Reps K F as (xs.map (·.2)) (ps.map (·.2))
def RepFs (K : PySem.W.Frag) (F : Hp) (as : List Addr) (xs : List (Str × V)) (ps : List (Str × P)) : Prop := xs.map (·.1) = ps.map (·.1) ∧ Reps K F as (xs.map (·.2)) (ps.map (·.2))

def ObOk (K : PySem.W.Frag) (H F : Hp) (as : List Addr) (a : Addr) : Ob → Prop
  | .lst ps => F a = none ∧ ∃ xs, H a = some (.lst xs) ∧ Reps K F as xs ps
  | .dK kvs => F a = none ∧ ∃ xs, H a = some (.dK xs) ∧ RepKs K F as xs kvs
  | .ins C fs => F a = none ∧ ∃ dx vs, H a = some (.ins C dx vs) ∧ RepFs K F as vs fs
  | .dead => ∃ o, H a = some o

structure Wd (K : PySem.W.Frag) (H : Hp) (as : List Addr) (F : Hp) (c : List Ob) : Prop where
  sub : Ex F H
  len : as.length = c.length
  nd : as.Nodup
  cel : ∀ (n : Nat) (a : Addr) (o : Ob), as[n]? = some a → c[n]? = some o → ObOk K H F as a o

structure Xt (H : Hp) (as : List Addr) (F : Hp) (H' : Hp) (as' : List Addr) (F' : Hp) : Prop where
  pre : as <+: as'
  mono : Ex F F'
  frame : ∀ a o, H a = some o → a ∉ as → H' a = some o
  fresh : ∀ a, a ∈ as' → a ∈ as ∨ H a = none
  own : ∀ a o, F' a = some o → F a = some o ∨ H a = none ∨ a ∈ as

def Env (K : PySem.W.Frag) (F : Hp) (as : List Addr) (σ : L2.St) (ρ : List (Option P)) : Prop := σ.length = ρ.length ∧ ∀ (i : Nat) (p : P), ρ[i]? = some (some p) → ∃ v, σ[i]? = some (some v) ∧ Rep K F as v p

def wipeP (ρ : List (Option P)) : List Nat → List (Option P)
  | [] => ρ
  | v :: vs => (wipeP ρ vs).set v none

section
variable {K : PySem.W.Frag} {F F' F'' H H' H'' : Hp} {as as' as'' : List Addr} {c c' : List Ob} {σ : L2.St} {ρ : List (Option P)} {p : P} {v : V} {a : Addr}
theorem Xt.refl : Xt H as F H as F := ⟨List.prefix_rfl, Ex.refl _, fun _ _ h _ => h, fun _ h => .inl h, fun _ _ h => .inl h⟩
theorem Xt.trans (x : Xt H as F H' as' F') (y : Xt H' as' F' H'' as'' F'') : Xt H as F H'' as'' F'' := by
  refine ⟨x.pre.trans y.pre, Ex.trans x.mono y.mono, fun a o h ha => y.frame a o (x.frame a o h ha) fun hm => ?_, fun a ha => ?_, fun a o h => ?_⟩
  · rcases x.fresh a hm with h1 | h1
    · exact ha h1
    · rw [h1] at h; cases h
  · rcases y.fresh a ha with h1 | h1
    · exact x.fresh a h1
    · by_cases hm : a ∈ as
      · exact .inl hm
      · refine .inr ?_
        cases e : H a with
        | none => rfl
        | some o => rw [x.frame a o e hm] at h1; cases h1
  · rcases y.own a o h with h1 | h1 | h1
    · exact x.own a o h1
    · by_cases hm : a ∈ as
      · exact .inr (.inr hm)
      · refine .inr (.inl ?_)
        cases e : H a with
        | none => rfl
        | some o => rw [x.frame a o e hm] at h1; cases h1
    · rcases x.fresh a h1 with h2 | h2
      · exact .inr (.inr h2)
      · exact .inr (.inl h2)
theorem Rep.xt (x : Xt H as F H' as' F') (h : Rep K F as v p) : Rep K F' as' v p := h.mono x.mono x.pre
theorem Reps.xt {vs : List V} {ps : List P} (x : Xt H as F H' as' F') (h : Reps K F as vs ps) : Reps K F' as' vs ps := h.mono x.mono x.pre
theorem Env.xt (x : Xt H as F H' as' F') (h : Env K F as σ ρ) : Env K F' as' σ ρ := ⟨h.1, fun i p e => by
  obtain ⟨v, e1, e2⟩ := h.2 i p e
  exact ⟨v, e1, e2.xt x⟩⟩
theorem Env.set (h : Env K F as σ ρ) (r : Rep K F as v p) (i : Nat) : Env K F as (σ.set i (some v)) (ρ.set i (some p)) := by
  refine ⟨by rw [List.length_set, List.length_set, h.1], fun j q e => ?_⟩
  by_cases hj : i = j
  · subst hj
    by_cases hl : i < ρ.length
    · rw [List.getElem?_set_self hl] at e
      cases e
      exact ⟨v, by rw [List.getElem?_set_self (by rw [h.1]; exact hl)], r⟩
    · rw [List.getElem?_eq_none (by rw [List.length_set]; omega)] at e
      cases e
  · rw [List.getElem?_set_ne hj] at e ⊢
    exact h.2 j q e
theorem Env.forget (h : Env K F as σ ρ) (i : Nat) (o : Option V) : Env K F as (σ.set i o) (ρ.set i none) := by
  refine ⟨by rw [List.length_set, List.length_set, h.1], fun j q e => ?_⟩
  by_cases hj : i = j
  · subst hj
    by_cases hl : i < ρ.length
    · rw [List.getElem?_set_self hl] at e; cases e
    · rw [List.getElem?_eq_none (by rw [List.length_set]; omega)] at e; cases e
  · rw [List.getElem?_set_ne hj] at e ⊢
    exact h.2 j q e
theorem Env.wipe (h : Env K F as σ ρ) : ∀ vs : List Nat, Env K F as (L2.wipe σ vs) (wipeP ρ vs)
  | [] => h
  | v :: vs => (Env.wipe h vs).forget v none
/-- what a cell is, when others than the heap's own change -/
theorem ObOk.xt {o : Ob} (h : ObOk K H F as a o) (x : Xt H as F H' as' F') (hs : H' a = H a) (hf : F a = none → F' a = none) : ObOk K H' F' as' a o := by
  cases o with
  | lst ps => obtain ⟨h0, xs, h1, h2⟩ := h; exact ⟨hf h0, xs, by rw [hs]; exact h1, h2.xt x⟩
  | dK ps => obtain ⟨h0, xs, h1, h2, h3⟩ := h; exact ⟨hf h0, xs, by rw [hs]; exact h1, h2, h3.xt x⟩
  | ins C ps => obtain ⟨h0, dx, xs, h1, h2, h3⟩ := h; exact ⟨hf h0, dx, xs, by rw [hs]; exact h1, h2, h3.xt x⟩
  | dead => obtain ⟨o, h⟩ := h; exact ⟨o, by rw [hs]; exact h⟩
theorem ObOk.has {o : Ob} (h : ObOk K H F as a o) : ∃ o, H a = some o := by
  cases o with
  | lst ps => obtain ⟨h0, xs, h1, h2⟩ := h; exact ⟨_, h1⟩
  | dK ps => obtain ⟨h0, xs, h1, h2, h3⟩ := h; exact ⟨_, h1⟩
  | ins C ps => obtain ⟨h0, dx, xs, h1, h2, h3⟩ := h; exact ⟨_, h1⟩
  | dead => exact h
theorem Wd.has (w : Wd K H as F c) (h : a ∈ as) : ∃ o, H a = some o := by
  obtain ⟨n, hn⟩ := List.getElem?_of_mem h
  have hl : n < c.length := by rw [← w.len]; exact (List.getElem?_eq_some_iff.mp hn).1
  exact (w.cel n a c[n] hn (List.getElem?_eq_getElem hl)).has
theorem Wd.new (w : Wd K H as F c) (h : H a = none) : a ∉ as := fun hm => by
  obtain ⟨o, e⟩ := w.has hm
  rw [h] at e; cases e
/-- a new object that never changes -/
theorem Wd.alloc (w : Wd K H as F c) (h : H a = none) (o : HO) : Wd K (upd H a o) as (upd F a o) c ∧ Xt H as F (upd H a o) as (upd F a o) := by
  have hF : F a = none := fresh_back w.sub h
  have x : Xt H as F (upd H a o) as (upd F a o) := ⟨List.prefix_rfl, Ex.new hF, fun b u e _ => by rw [upd_ne (ne_of_none e h)]; exact e, fun _ h => .inl h, fun b u e => by
    by_cases hb : b = a
    · subst hb; exact .inr (.inl h)
    · rw [upd_ne hb] at e; exact .inl e⟩
  refine ⟨⟨fun b u e => ?_, w.len, w.nd, fun n b u e1 e2 => ?_⟩, x⟩
  · by_cases hb : b = a
    · subst hb; rw [upd_same] at e ⊢; exact e
    · rw [upd_ne hb] at e ⊢; exact w.sub b u e
  · have hb : b ≠ a := fun z => w.new h (z ▸ List.mem_of_getElem? e1)
    exact (w.cel n b u e1 e2).xt x (upd_ne hb) fun z => by rw [upd_ne hb]; exact z
/-- a new cell -/
theorem Wd.allocCell (w : Wd K H as F c) (h : H a = none) (o : HO) (ob : Ob) (hob : ObOk K (upd H a o) F (as ++ [a]) a ob) : Wd K (upd H a o) (as ++ [a]) F (c ++ [ob]) ∧ Xt H as F (upd H a o) (as ++ [a]) F := by
  have hF : F a = none := fresh_back w.sub h
  have x : Xt H as F (upd H a o) (as ++ [a]) F := ⟨List.prefix_append _ _, Ex.refl _, fun b u e _ => by rw [upd_ne (ne_of_none e h)]; exact e, fun b hb => by
    rcases List.mem_append.mp hb with h1 | h1
    · exact .inl h1
    · rw [List.mem_singleton] at h1; subst h1; exact .inr h, fun _ _ h => .inl h⟩
  refine ⟨⟨fun b u e => ?_, by rw [List.length_append, List.length_append, w.len]; rfl, ?_, fun n b u e1 e2 => ?_⟩, x⟩
  · rw [upd_ne (ne_of_none e hF)]; exact w.sub b u e
  · rw [List.nodup_append]
    exact ⟨w.nd, List.pairwise_singleton _ _, fun b hb d hd => by rw [List.mem_singleton] at hd; subst hd; exact fun z => w.new h (z ▸ hb)⟩
  · by_cases hn : n < as.length
    · rw [List.getElem?_append_left hn] at e1
      rw [List.getElem?_append_left (by rw [← w.len]; exact hn)] at e2
      have hb : b ≠ a := fun z => w.new h (z ▸ List.mem_of_getElem? e1)
      exact (w.cel n b u e1 e2).xt x (upd_ne hb) fun z => z
    · have hn' : n = as.length := by
        have := (List.getElem?_eq_some_iff.mp e1).1
        rw [List.length_append] at this
        simp at this; omega
      subst hn'
      rw [List.getElem?_append_right (Nat.le_refl _), Nat.sub_self] at e1
      rw [List.getElem?_append_right (by rw [← w.len]; exact Nat.le_refl _), w.len, Nat.sub_self] at e2
      cases e1; cases e2
      exact hob
/-- a cell is changed -/
theorem Wd.put {n : Nat} {ob ob0 : Ob} (w : Wd K H as F c) (hn : as[n]? = some a) (hF : F a = none) (o : HO) (hob : ObOk K (upd H a o) F as a ob) : Wd K (upd H a o) as F (c.set n ob) ∧ Xt H as F (upd H a o) as F := by
  have hne : ∀ b, b ∉ as → b ≠ a := fun b hb z => hb (z ▸ List.mem_of_getElem? hn)
  have x : Xt H as F (upd H a o) as F := ⟨List.prefix_rfl, Ex.refl _, fun b u e hb => by rw [upd_ne (hne b hb)]; exact e, fun b hb => .inl hb, fun _ _ h => .inl h⟩
  refine ⟨⟨fun b u e => ?_, by rw [List.length_set, w.len], w.nd, fun m b u e1 e2 => ?_⟩, x⟩
  · rw [upd_ne (ne_of_none e hF)]; exact w.sub b u e
  · by_cases hm : n = m
    · subst hm
      rw [hn] at e1; cases e1
      rw [List.getElem?_set_self (by rw [← w.len]; exact (List.getElem?_eq_some_iff.mp hn).1)] at e2
      cases e2
      exact hob
    · rw [List.getElem?_set_ne hm] at e2
      have hb : b ≠ a := fun z => by
        subst z
        exact hm (nodup_ix w.nd hn e1)
      exact (w.cel m b u e1 e2).xt x (upd_ne hb) fun z => z
/-- a cell becomes a value -/
theorem Wd.freeze {n : Nat} {ps : List P} (w : Wd K H as F c) (hn : as[n]? = some a) (hc : c[n]? = some (.lst ps)) : ∃ F', Wd K H as F' (c.set n .dead) ∧ Xt H as F H as F' ∧ Rep K F' as (.ref a) (.lst ps) := by
  obtain ⟨hF, xs, hH, hr⟩ := w.cel n a _ hn hc
  have x : Xt H as F H as (upd F a (.lst xs)) := ⟨List.prefix_rfl, Ex.new hF, fun b u e _ => e, fun b hb => .inl hb, fun b u e => by
    by_cases hb : b = a
    · subst hb; exact .inr (.inr (List.mem_of_getElem? hn))
    · rw [upd_ne hb] at e; exact .inl e⟩
  refine ⟨upd F a (.lst xs), ⟨fun b u e => ?_, by rw [List.length_set, w.len], w.nd, fun m b u e1 e2 => ?_⟩, x, .lst upd_same (hr.xt x)⟩
  · by_cases hb : b = a
    · subst hb; rw [upd_same] at e; cases e; exact hH
    · rw [upd_ne hb] at e; exact w.sub b u e
  · by_cases hm : n = m
    · subst hm
      rw [List.getElem?_set_self (List.getElem?_eq_some_iff.mp hc).1] at e2
      cases e2
      rw [hn] at e1; cases e1
      exact ⟨_, hH⟩
    · rw [List.getElem?_set_ne hm] at e2
      have hb : b ≠ a := fun z => by
        subst z
        exact hm (nodup_ix w.nd hn e1)
      exact (w.cel m b u e1 e2).xt x rfl fun z => by rw [upd_ne hb]; exact z
/-- an object of nobody's changes -/
theorem Wd.priv (w : Wd K H as F c) (h1 : a ∉ as) (h2 : F a = none) (o : HO) : Wd K (upd H a o) as F c := by
  refine ⟨fun b u e => ?_, w.len, w.nd, fun n b u e1 e2 => ?_⟩
  · rw [upd_ne (ne_of_none e h2)]; exact w.sub b u e
  · have hb : b ≠ a := fun z => h1 (z ▸ List.mem_of_getElem? e1)
    cases u with
    | lst ps => obtain ⟨h0, xs, h1, h2⟩ := w.cel n b _ e1 e2; exact ⟨h0, xs, by rw [upd_ne hb]; exact h1, h2⟩
    | dK ps => obtain ⟨h0, xs, h1, h2⟩ := w.cel n b _ e1 e2; exact ⟨h0, xs, by rw [upd_ne hb]; exact h1, h2⟩
    | ins C ps => obtain ⟨h0, dx, xs, h1, h2⟩ := w.cel n b _ e1 e2; exact ⟨h0, dx, xs, by rw [upd_ne hb]; exact h1, h2⟩
    | dead => obtain ⟨o, h⟩ := w.cel n b _ e1 e2; exact ⟨o, by rw [upd_ne hb]; exact h⟩
theorem Xt.priv (x : Xt H as F H' as' F') (h : H a = none) (o : HO) : Xt H as F (upd H' a o) as' F' :=
  ⟨x.pre, x.mono, fun b u e hb => by rw [upd_ne (ne_of_none e h)]; exact x.frame b u e hb, x.fresh, x.own⟩
/-- it becomes a value -/
theorem Wd.keep (w : Wd K H as F c) (h1 : a ∉ as) {o : HO} (h2 : H a = some o) (h3 : F a = none) : Wd K H as (upd F a o) c := by
  refine ⟨fun b u e => ?_, w.len, w.nd, fun n b u e1 e2 => ?_⟩
  · by_cases hb : b = a
    · subst hb; rw [upd_same] at e; cases e; exact h2
    · rw [upd_ne hb] at e; exact w.sub b u e
  · have hb : b ≠ a := fun z => h1 (z ▸ List.mem_of_getElem? e1)
    have x : Ex F (upd F a o) := Ex.new h3
    cases u with
    | lst ps => obtain ⟨h0, xs, q1, q2⟩ := w.cel n b _ e1 e2; exact ⟨by rw [upd_ne hb]; exact h0, xs, q1, q2.mono x List.prefix_rfl⟩
    | dK ps => obtain ⟨h0, xs, q1, q2, q3⟩ := w.cel n b _ e1 e2; exact ⟨by rw [upd_ne hb]; exact h0, xs, q1, q2, q3.mono x List.prefix_rfl⟩
    | ins C ps => obtain ⟨h0, dx, xs, q1, q2, q3⟩ := w.cel n b _ e1 e2; exact ⟨by rw [upd_ne hb]; exact h0, dx, xs, q1, q2, q3.mono x List.prefix_rfl⟩
    | dead => exact w.cel n b _ e1 e2
theorem Xt.keep (x : Xt H as F H' as' F') (h : H a = none) (h3 : F' a = none) (o : HO) : Xt H as F H' as' (upd F' a o) :=
  ⟨x.pre, Ex.trans x.mono (Ex.new h3), x.frame, x.fresh, fun b u e => by
    by_cases hb : b = a
    · subst hb; exact .inr (.inl h)
    · rw [upd_ne hb] at e; exact x.own b u e⟩
end

/-! ### values that speak of the first cells alone -/
mutual
def P.bel (n : Nat) : P → Bool
  | .tup xs => bels n xs
  | .lst xs => bels n xs
  | .klst xs => bels n xs
  | .cell m => decide (m < n)
  | _ => true
def bels (n : Nat) : List P → Bool
  | [] => true
  | x :: xs => x.bel n && bels n xs
end
def Ob.bel (n : Nat) : Ob → Bool
  | .lst xs => bels n xs
  | .dK kvs => bels n (kvs.map (·.2))
  | .ins _ fs => bels n (fs.map (·.2))
  | .dead => true
section
variable {K : PySem.W.Frag} {F H : Hp} {as : List Addr} {c : List Ob}
mutual
theorem Rep.bel : ∀ {p : P} {v : V}, Rep K F as v p → p.bel as.length = true
  | .non, _, _ => rfl
  | .bl _, _, _ => rfl
  | .int _, _, _ => rfl
  | .str _, _, _ => rfl
  | .tup _, _, h => by cases h with | tup h1 h2 => exact Reps.bel h2
  | .lst _, _, h => by cases h with | lst h1 h2 => exact Reps.bel h2
  | .klst _, _, h => by cases h with | klst h1 h2 => exact Reps.bel h2
  | .rng _ _, _, _ => rfl
  | .cell n, _, h => by cases h with | cell h1 => exact decide_eq_true (List.getElem?_eq_some_iff.mp h1).1
  | .ty _, _, _ => rfl
theorem Reps.bel : ∀ {ps : List P} {vs : List V}, Reps K F as vs ps → bels as.length ps = true
  | [], _, _ => rfl
  | p :: ps, _, h => by
    cases h with
    | cons h1 h2 =>
      show (p.bel as.length && bels as.length ps) = true
      rw [Rep.bel h1, Reps.bel h2]; rfl
end
mutual
theorem Rep.cut {ex : List Addr} : ∀ {p : P} {v : V}, Rep K F (as ++ ex) v p → p.bel as.length = true → Rep K F as v p
  | .non, _, h, _ => by cases h; exact .non
  | .bl b, _, h, _ => by cases h; exact .bl b
  | .int i, _, h, _ => by cases h; exact .int i
  | .str s, _, h, _ => by cases h; exact .str s
  | .tup ps, _, h, b => by cases h with | tup h1 h2 => exact .tup h1 (Reps.cut h2 b)
  | .lst ps, _, h, b => by cases h with | lst h1 h2 => exact .lst h1 (Reps.cut h2 b)
  | .klst ps, _, h, b => by cases h with | klst h1 h2 => exact .klst h1 (Reps.cut h2 b)
  | .rng lo hi, _, h, _ => by cases h with | rng h1 => exact .rng h1
  | .cell n, _, h, b => by
    cases h with
    | cell h1 =>
      have hb : n < as.length := of_decide_eq_true b
      rw [List.getElem?_append_left hb] at h1
      exact .cell h1
  | .ty n, _, h, _ => by cases h; exact .ty n
theorem Reps.cut {ex : List Addr} : ∀ {ps : List P} {vs : List V}, Reps K F (as ++ ex) vs ps → bels as.length ps = true → Reps K F as vs ps
  | [], _, h, _ => by cases h; exact .nil
  | p :: ps, _, h, b => by
    cases h with
    | cons h1 h2 =>
      have b' : (p.bel as.length && bels as.length ps) = true := b
      rw [Bool.and_eq_true] at b'
      exact .cons (Rep.cut h1 b'.1) (Reps.cut h2 b'.2)
end
theorem Wd.bel (w : Wd K H as F c) : ∀ o ∈ c, Ob.bel c.length o = true := fun o ho => by
  obtain ⟨n, hn⟩ := List.getElem?_of_mem ho
  have hl : n < as.length := by rw [w.len]; exact (List.getElem?_eq_some_iff.mp hn).1
  have h := w.cel n as[n] o (List.getElem?_eq_getElem hl) hn
  rw [← w.len]
  cases o with
  | lst ps => obtain ⟨_, xs, _, r⟩ := h; exact r.bel
  | dK ps => obtain ⟨_, xs, _, _, r⟩ := h; exact r.bel
  | ins C ps => obtain ⟨_, dx, xs, _, _, r⟩ := h; exact r.bel
  | dead => rfl
/-- cells at the end are forgotten -/
theorem Wd.drop {c0 ex : List Ob} (w : Wd K H as F (c0 ++ ex)) (hb : ∀ o ∈ c0, Ob.bel c0.length o = true) : Wd K H (as.take c0.length) F c0 := by
  have hl : c0.length ≤ as.length := by rw [w.len, List.length_append]; exact Nat.le_add_right _ _
  have hlen : (as.take c0.length).length = c0.length := by rw [List.length_take]; exact Nat.min_eq_left hl
  refine ⟨w.sub, hlen, w.nd.sublist (List.take_sublist _ _), fun n a o e1 e2 => ?_⟩
  have hn : n < c0.length := (List.getElem?_eq_some_iff.mp e2).1
  have e1' : as[n]? = some a := by rw [List.getElem?_take_of_lt hn] at e1; exact e1
  have h := w.cel n a o e1' (by rw [List.getElem?_append_left hn]; exact e2)
  have hbo := hb o (List.mem_of_getElem? e2)
  rw [← hlen] at hbo
  have ea : as.take c0.length ++ as.drop c0.length = as := List.take_append_drop _ _
  rw [← ea] at h
  cases o with
  | lst ps => obtain ⟨q0, xs, q1, r⟩ := h; exact ⟨q0, xs, q1, r.cut hbo⟩
  | dK ps => obtain ⟨q0, xs, q1, q2, r⟩ := h; exact ⟨q0, xs, q1, q2, r.cut hbo⟩
  | ins C ps => obtain ⟨q0, dx, xs, q1, q2, r⟩ := h; exact ⟨q0, dx, xs, q1, q2, r.cut hbo⟩
  | dead => exact h
end

end PL

set_option Elab.async false
set_option linter.all false
set_option maxRecDepth 100000
set_option maxHeartbeats 2000000
namespace PL
open PySem PySem.Spec PyProof.Rows L2 Evl

/-! ### judgements -/
abbrev PQ := P → List Ob → Prop
abbrev PR := List (Option P)
def EW (K : PySem.W.Frag) (t : TE) (ρ : PR) (c : List Ob) (Q : PQ) : Prop :=
  ∀ σ H as F, Wd K H as F c → Env K F as σ ρ → ∀ Q' : VK, (∀ v H' as' F' p c', Q p c' → Wd K H' as' F' c' → Xt H as F H' as' F' → Rep K F' as' v p → Q' v H') → t σ H Q'
def TW (K : PySem.W.Frag) (t : TT) (ρ : PR) (c : List Ob) (Q : Bool → List Ob → Prop) : Prop :=
  ∀ σ H as F, Wd K H as F c → Env K F as σ ρ → ∀ Q' : Bool → Hp → Prop, (∀ b H' as' F' c', Q b c' → Wd K H' as' F' c' → Xt H as F H' as' F' → Q' b H') → t σ H Q'
def AW (K : PySem.W.Frag) (t : TA) (ρ : PR) (c : List Ob) (Q : List P → List Ob → Prop) : Prop :=
  ∀ σ H as F, Wd K H as F c → Env K F as σ ρ → ∀ Q' : List V → Hp → Prop, (∀ vs H' as' F' ps c', Q ps c' → Wd K H' as' F' c' → Xt H as F H' as' F' → Reps K F' as' vs ps → Q' vs H') → t σ H Q'
structure PEnds where
  nx : PR → List Ob → Prop
  rt : PQ
  bk : PR → List Ob → Prop := fun _ _ => False
  ct : PR → List Ob → Prop := fun _ _ => False
def NxOk (K : PySem.W.Frag) (H : Hp) (as : List Addr) (F : Hp) (N : PR → List Ob → Prop) (N' : L2.St → Hp → Prop) : Prop :=
  ∀ σ' H' as' F' ρ' c', N ρ' c' → Wd K H' as' F' c' → Xt H as F H' as' F' → Env K F' as' σ' ρ' → N' σ' H'
structure EndsOk (K : PySem.W.Frag) (H : Hp) (as : List Addr) (F : Hp) (D : PEnds) (D' : Ends) : Prop where
  nx : NxOk K H as F D.nx D'.nx
  rt : ∀ v H' as' F' p c', D.rt p c' → Wd K H' as' F' c' → Xt H as F H' as' F' → Rep K F' as' v p → D'.rt v H'
  bk : NxOk K H as F D.bk D'.bk
  ct : NxOk K H as F D.ct D'.ct
def SW (K : PySem.W.Frag) (t : TS) (ρ : PR) (c : List Ob) (D : PEnds) : Prop :=
  ∀ σ H as F, Wd K H as F c → Env K F as σ ρ → ∀ D' : Ends, EndsOk K H as F D D' → t D' σ H
def GW (K : PySem.W.Frag) (g : TG) (p : P) (ρ : PR) (c : List Ob) (Q : PR → List Ob → Prop) : Prop :=
  ∀ v σ H as F, Wd K H as F c → Env K F as σ ρ → Rep K F as v p → ∀ Q' : L2.St → Hp → Prop, NxOk K H as F Q Q' → g v σ H Q'
def GWs (K : PySem.W.Frag) (g : TGs) (ps : List P) (ρ : PR) (c : List Ob) (Q : PR → List Ob → Prop) : Prop :=
  ∀ vs σ H as F, Wd K H as F c → Env K F as σ ρ → Reps K F as vs ps → ∀ Q' : L2.St → Hp → Prop, NxOk K H as F Q Q' → g vs σ H Q'
/-- an iterator that yields these, one by one -/
def JOk (K : PySem.W.Frag) (J : It) (F : Hp) (as : List Addr) (items : List P) : Prop :=
  ∀ i H2 as2 F2 c2, Wd K H2 as2 F2 c2 → Ex F F2 → as <+: as2 →
    (items.length ≤ i → J.stop i H2) ∧ ∀ p, items[i]? = some p → J.go i H2 ∧ ∀ x H3, J.yld i H2 x H3 → ∃ F3, Wd K H3 as2 F3 c2 ∧ Xt H2 as2 F2 H3 as2 F3 ∧ Rep K F3 as2 x p
def IW (K : PySem.W.Frag) (wi : TI) (ρ : PR) (c : List Ob) (Q : List P → List Ob → Prop) : Prop :=
  ∀ σ H as F, Wd K H as F c → Env K F as σ ρ → ∀ R : It → Hp → Prop, (∀ J H' as' F' items c', Q items c' → Wd K H' as' F' c' → Xt H as F H' as' F' → JOk K J F' as' items → R J H') → wi σ H R

section
variable {K : PySem.W.Frag} {F H : Hp} {as : List Addr} {c : List Ob} {ρ : PR} {Q : PQ} {D : PEnds} {te ta tb : TE} {tt t1 t2 : TT} {tl : TA}

theorem NxOk.xt {H' F' : Hp} {as' : List Addr} {N : PR → List Ob → Prop} {N' : L2.St → Hp → Prop} (h : NxOk K H as F N N') (x : Xt H as F H' as' F') : NxOk K H' as' F' N N' :=
  fun σ2 H2 as2 F2 ρ2 c2 q w y e => h σ2 H2 as2 F2 ρ2 c2 q w (x.trans y) e
theorem EndsOk.xt {H' F' : Hp} {as' : List Addr} {D' : Ends} (h : EndsOk K H as F D D') (x : Xt H as F H' as' F') : EndsOk K H' as' F' D D' :=
  ⟨h.nx.xt x, fun v H2 as2 F2 p c2 q w y e => h.rt v H2 as2 F2 p c2 q w (x.trans y) e, h.bk.xt x, h.ct.xt x⟩

theorem EW.mono {Q1 : PQ} (h : EW K te ρ c Q1) (i : ∀ p c', Q1 p c' → Q p c') : EW K te ρ c Q := fun σ H as F w e Q' k => h σ H as F w e Q' fun v H' as' F' p c' q => k v H' as' F' p c' (i p c' q)

/-! ### names, constants -/
theorem ew_var {i : Nat} {p : P} (h : ρ[i]? = some (some p)) (q : Q p c) : EW K (tVar i) ρ c Q := fun σ H as F w e Q' k => by
  obtain ⟨v, e1, r⟩ := e.2 i p h
  exact ⟨v, e1, k v H as F p c q w Xt.refl r⟩
theorem ew_int {n : Int} (q : Q (.int n) c) : EW K (tC (.int n)) ρ c Q := fun σ H as F w e Q' k => k _ H as F _ c q w Xt.refl (.int n)
theorem ew_bl {b : Bool} (q : Q (.bl b) c) : EW K (tC (.bl b)) ρ c Q := fun σ H as F w e Q' k => k _ H as F _ c q w Xt.refl (.bl b)
theorem ew_non (q : Q .non c) : EW K (tC .non) ρ c Q := fun σ H as F w e Q' k => k _ H as F _ c q w Xt.refl .non
theorem ew_str {s : Str} (q : Q (.str s) c) : EW K (tC (.str s)) ρ c Q := fun σ H as F w e Q' k => k _ H as F _ c q w Xt.refl (.str s)
/-- a thing of the written part -/
def Wr (K : PySem.W.Frag) (v : V) (p : P) : Prop := ∀ F as, Rep K F as v p
theorem ew_wr {v : V} {p : P} (h : Wr K v p) (q : Q p c) : EW K (tC v) ρ c Q := fun σ H as F w e Q' k => k _ H as F _ c q w Xt.refl (h F as)

/-! ### operators -/
theorem ew_opI {g : Int → Int → Int} (h : EW K ta ρ c fun p c1 => ∃ i, p = .int i ∧ EW K tb ρ c1 fun q c2 => ∃ j, q = .int j ∧ Q (.int (g i j)) c2) : EW K (tOp (rI0 fun i j => .int (g i j)) ta tb) ρ c Q := fun σ H as F w e Q' k =>
  h σ H as F w e _ fun v H1 as1 F1 p c1 ⟨i, ep, h2⟩ w1 x1 r1 => by
    subst ep; cases r1
    refine h2 σ H1 as1 F1 w1 (e.xt x1) _ fun v2 H2 as2 F2 p2 c2 ⟨j, ep2, q⟩ w2 x2 r2 => ?_
    subst ep2; cases r2
    exact ⟨i, j, rfl, rfl, k _ H2 as2 F2 _ c2 q w2 (x1.trans x2) (.int _)⟩
theorem ew_opB {g : Int → Int → Bool} (h : EW K ta ρ c fun p c1 => ∃ i, p = .int i ∧ EW K tb ρ c1 fun q c2 => ∃ j, q = .int j ∧ Q (.bl (g i j)) c2) : EW K (tOp (rI0 fun i j => .bl (g i j)) ta tb) ρ c Q := fun σ H as F w e Q' k =>
  h σ H as F w e _ fun v H1 as1 F1 p c1 ⟨i, ep, h2⟩ w1 x1 r1 => by
    subst ep; cases r1
    refine h2 σ H1 as1 F1 w1 (e.xt x1) _ fun v2 H2 as2 F2 p2 c2 ⟨j, ep2, q⟩ w2 x2 r2 => ?_
    subst ep2; cases r2
    exact ⟨i, j, rfl, rfl, k _ H2 as2 F2 _ c2 q w2 (x1.trans x2) (.bl _)⟩
theorem ew_opC {C : Int → Int → Prop} {g : Int → Int → Int} (h : EW K ta ρ c fun p c1 => ∃ i, p = .int i ∧ EW K tb ρ c1 fun q c2 => ∃ j, q = .int j ∧ C i j ∧ Q (.int (g i j)) c2) : EW K (tOp (rI C fun i j => .int (g i j)) ta tb) ρ c Q := fun σ H as F w e Q' k =>
  h σ H as F w e _ fun v H1 as1 F1 p c1 ⟨i, ep, h2⟩ w1 x1 r1 => by
    subst ep; cases r1
    refine h2 σ H1 as1 F1 w1 (e.xt x1) _ fun v2 H2 as2 F2 p2 c2 ⟨j, ep2, hc, q⟩ w2 x2 r2 => ?_
    subst ep2; cases r2
    exact ⟨i, j, rfl, rfl, hc, k _ H2 as2 F2 _ c2 q w2 (x1.trans x2) (.int _)⟩
theorem ew_un {g : Int → Int} (h : EW K ta ρ c fun p c1 => ∃ i, p = .int i ∧ Q (.int (g i)) c1) : EW K (tUn (rU fun i => .int (g i)) ta) ρ c Q := fun σ H as F w e Q' k =>
  h σ H as F w e _ fun v H1 as1 F1 p c1 ⟨i, ep, q⟩ w1 x1 r1 => by
    subst ep; cases r1
    exact ⟨i, rfl, k _ H1 as1 F1 _ c1 q w1 x1 (.int _)⟩
/-- the scalars -/
def P.sc : P → Option V
  | .non => some .non
  | .bl b => some (.bl b)
  | .int i => some (.int i)
  | .str s => some (.str s)
  | _ => none
theorem Rep.sc {v x : V} {p : P} (r : Rep K F as v p) (h : p.sc = some x) : v = x := by
  cases p <;> first | (cases h; done) | (simp only [P.sc, Option.some.injEq] at h; subst h; cases r; rfl)
theorem ew_eq (h : EW K ta ρ c fun p c1 => EW K tb ρ c1 fun q c2 => ∃ x y, p.sc = some x ∧ q.sc = some y ∧ scal x y = true ∧ Q (.bl (decide (x = y))) c2) : EW K (tOp rEq ta tb) ρ c Q := fun σ H as F w e Q' k =>
  h σ H as F w e _ fun v H1 as1 F1 p c1 h2 w1 x1 r1 => by
    refine h2 σ H1 as1 F1 w1 (e.xt x1) _ fun v2 H2 as2 F2 p2 c2 ⟨x, y, ex, ey, s, q⟩ w2 x2 r2 => ?_
    rw [r1.sc ex, r2.sc ey]
    exact ⟨s, k _ H2 as2 F2 _ c2 q w2 (x1.trans x2) (.bl _)⟩
theorem ew_ne (h : EW K ta ρ c fun p c1 => EW K tb ρ c1 fun q c2 => ∃ x y, p.sc = some x ∧ q.sc = some y ∧ scal x y = true ∧ Q (.bl (!decide (x = y))) c2) : EW K (tOp rNe ta tb) ρ c Q := fun σ H as F w e Q' k =>
  h σ H as F w e _ fun v H1 as1 F1 p c1 h2 w1 x1 r1 => by
    refine h2 σ H1 as1 F1 w1 (e.xt x1) _ fun v2 H2 as2 F2 p2 c2 ⟨x, y, ex, ey, s, q⟩ w2 x2 r2 => ?_
    rw [r1.sc ex, r2.sc ey]
    exact ⟨s, k _ H2 as2 F2 _ c2 q w2 (x1.trans x2) (.bl _)⟩
theorem ew_eqI (h : EW K ta ρ c fun p c1 => ∃ i, p = .int i ∧ EW K tb ρ c1 fun q c2 => ∃ j, q = .int j ∧ Q (.bl (decide (i = j))) c2) : EW K (tOp rEq ta tb) ρ c Q :=
  ew_eq (h.mono fun p c1 ⟨i, ep, h2⟩ => h2.mono fun q c2 ⟨j, eq, hq⟩ => ⟨.int i, .int j, by rw [ep]; rfl, by rw [eq]; rfl, rfl, by
    have e : decide (V.int i = V.int j) = decide (i = j) := by
      by_cases z : i = j
      · rw [decide_eq_true z, z]; exact decide_eq_true rfl
      · rw [decide_eq_false z]; exact decide_eq_false fun y => z (V.int.inj y)
    rw [e]; exact hq⟩)
theorem ew_neI (h : EW K ta ρ c fun p c1 => ∃ i, p = .int i ∧ EW K tb ρ c1 fun q c2 => ∃ j, q = .int j ∧ Q (.bl (!decide (i = j))) c2) : EW K (tOp rNe ta tb) ρ c Q :=
  ew_ne (h.mono fun p c1 ⟨i, ep, h2⟩ => h2.mono fun q c2 ⟨j, eq, hq⟩ => ⟨.int i, .int j, by rw [ep]; rfl, by rw [eq]; rfl, rfl, by
    have e : decide (V.int i = V.int j) = decide (i = j) := by
      by_cases z : i = j
      · rw [decide_eq_true z, z]; exact decide_eq_true rfl
      · rw [decide_eq_false z]; exact decide_eq_false fun y => z (V.int.inj y)
    rw [e]; exact hq⟩)
theorem ew_eqB (h : EW K ta ρ c fun p c1 => ∃ i, p = .bl i ∧ EW K tb ρ c1 fun q c2 => ∃ j, q = .bl j ∧ Q (.bl (i == j)) c2) : EW K (tOp rEq ta tb) ρ c Q :=
  ew_eq (h.mono fun p c1 ⟨i, ep, h2⟩ => h2.mono fun q c2 ⟨j, eq, hq⟩ => ⟨.bl i, .bl j, by rw [ep]; rfl, by rw [eq]; rfl, rfl, by
    have e : decide (V.bl i = V.bl j) = (i == j) := by cases i <;> cases j <;> rfl
    rw [e]; exact hq⟩)
theorem ew_neB (h : EW K ta ρ c fun p c1 => ∃ i, p = .bl i ∧ EW K tb ρ c1 fun q c2 => ∃ j, q = .bl j ∧ Q (.bl (i != j)) c2) : EW K (tOp rNe ta tb) ρ c Q :=
  ew_ne (h.mono fun p c1 ⟨i, ep, h2⟩ => h2.mono fun q c2 ⟨j, eq, hq⟩ => ⟨.bl i, .bl j, by rw [ep]; rfl, by rw [eq]; rfl, rfl, by
    have e : (!decide (V.bl i = V.bl j)) = (i != j) := by cases i <;> cases j <;> rfl
    rw [e]; exact hq⟩)
/-- a op b op' c, of ints -/
theorem ew_chain {g g' : Int → Int → Bool} {tc : TE} (h : EW K ta ρ c fun p c1 => ∃ i, p = .int i ∧ EW K tb ρ c1 fun q c2 => ∃ j, q = .int j ∧ (g i j = true → EW K tc ρ c2 fun r c3 => ∃ l, r = .int l ∧ Q (.bl (g' j l)) c3) ∧ (g i j = false → Q (.bl false) c2)) :
    EW K (tChain (rI0 fun i j => .bl (g i j)) (rI0 fun i j => .bl (g' i j)) ta tb tc) ρ c Q := fun σ H as F w e Q' k =>
  h σ H as F w e _ fun v H1 as1 F1 p c1 ⟨i, ep, h2⟩ w1 x1 r1 => by
    subst ep; cases r1
    refine h2 σ H1 as1 F1 w1 (e.xt x1) _ fun v2 H2 as2 F2 p2 c2 ⟨j, ep2, q1, q2⟩ w2 x2 r2 => ?_
    subst ep2; cases r2
    refine ⟨i, j, rfl, rfl, g i j, rfl, ?_⟩
    cases hg : g i j with
    | true =>
      show tc σ H2 _
      refine q1 hg σ H2 as2 F2 w2 (e.xt (x1.trans x2)) _ fun v3 H3 as3 F3 p3 c3 ⟨l, ep3, q⟩ w3 x3 r3 => ?_
      subst ep3; cases r3
      exact ⟨j, l, rfl, rfl, k _ H3 as3 F3 _ c3 q w3 ((x1.trans x2).trans x3) (.bl _)⟩
    | false => exact k _ H2 as2 F2 _ c2 (q2 hg) w2 (x1.trans x2) (.bl _)

/-! ### tests -/
theorem tw_test {Q : Bool → List Ob → Prop} (h : EW K te ρ c fun p c1 => ∃ b, p = .bl b ∧ Q b c1) : TW K (tTest te) ρ c Q := fun σ H as F w e Q' k =>
  h σ H as F w e _ fun v H1 as1 F1 p c1 ⟨b, ep, q⟩ w1 x1 r1 => by
    subst ep; cases r1
    exact ⟨b, rfl, k b H1 as1 F1 c1 q w1 x1⟩
theorem tw_B {Q : Bool → List Ob → Prop} (h : EW K te ρ c fun p c1 => ∃ b, p = .bl b ∧ Q b c1) : TW K (tB te) ρ c Q := fun σ H as F w e Q' k =>
  h σ H as F w e _ fun v H1 as1 F1 p c1 ⟨b, ep, q⟩ w1 x1 r1 => by
    subst ep; cases r1
    exact ⟨b, rfl, k b H1 as1 F1 c1 q w1 x1⟩
theorem tw_and {Q : Bool → List Ob → Prop} (h : TW K t1 ρ c fun b c1 => (b = true → TW K t2 ρ c1 Q) ∧ (b = false → Q false c1)) : TW K (tAnd t1 t2) ρ c Q := fun σ H as F w e Q' k =>
  h σ H as F w e _ fun b H1 as1 F1 c1 ⟨q1, q2⟩ w1 x1 => by
    cases b with
    | true => exact q1 rfl σ H1 as1 F1 w1 (e.xt x1) Q' fun b2 H2 as2 F2 c2 q w2 x2 => k b2 H2 as2 F2 c2 q w2 (x1.trans x2)
    | false => exact k false H1 as1 F1 c1 (q2 rfl) w1 x1
theorem tw_or {Q : Bool → List Ob → Prop} (h : TW K t1 ρ c fun b c1 => (b = true → Q true c1) ∧ (b = false → TW K t2 ρ c1 Q)) : TW K (tOr t1 t2) ρ c Q := fun σ H as F w e Q' k =>
  h σ H as F w e _ fun b H1 as1 F1 c1 ⟨q1, q2⟩ w1 x1 => by
    cases b with
    | true => exact k true H1 as1 F1 c1 (q1 rfl) w1 x1
    | false => exact q2 rfl σ H1 as1 F1 w1 (e.xt x1) Q' fun b2 H2 as2 F2 c2 q w2 x2 => k b2 H2 as2 F2 c2 q w2 (x1.trans x2)
theorem tw_not {Q : Bool → List Ob → Prop} (h : TW K t1 ρ c fun b c1 => Q (!b) c1) : TW K (tNot t1) ρ c Q := fun σ H as F w e Q' k =>
  h σ H as F w e _ fun b H1 as1 F1 c1 q w1 x1 => k (!b) H1 as1 F1 c1 q w1 x1
theorem tw_yes {Q : Bool → List Ob → Prop} (q : Q true c) : TW K tYes ρ c Q := fun σ H as F w e Q' k => k true H as F c q w Xt.refl
theorem ew_andV (h : EW K ta ρ c fun p c1 => ∃ b, p = .bl b ∧ (b = true → EW K tb ρ c1 Q) ∧ (b = false → Q (.bl false) c1)) : EW K (tAndV ta tb) ρ c Q := fun σ H as F w e Q' k =>
  h σ H as F w e _ fun v H1 as1 F1 p c1 ⟨b, ep, q1, q2⟩ w1 x1 r1 => by
    subst ep; cases r1
    refine ⟨b, rfl, ?_⟩
    cases b with
    | true => exact q1 rfl σ H1 as1 F1 w1 (e.xt x1) Q' fun v2 H2 as2 F2 p2 c2 q w2 x2 r2 => k v2 H2 as2 F2 p2 c2 q w2 (x1.trans x2) r2
    | false => exact k _ H1 as1 F1 _ c1 (q2 rfl) w1 x1 (.bl _)
theorem ew_orV (h : EW K ta ρ c fun p c1 => ∃ b, p = .bl b ∧ (b = true → Q (.bl true) c1) ∧ (b = false → EW K tb ρ c1 Q)) : EW K (tOrV ta tb) ρ c Q := fun σ H as F w e Q' k =>
  h σ H as F w e _ fun v H1 as1 F1 p c1 ⟨b, ep, q1, q2⟩ w1 x1 r1 => by
    subst ep; cases r1
    refine ⟨b, rfl, ?_⟩
    cases b with
    | true => exact k _ H1 as1 F1 _ c1 (q1 rfl) w1 x1 (.bl _)
    | false => exact q2 rfl σ H1 as1 F1 w1 (e.xt x1) Q' fun v2 H2 as2 F2 p2 c2 q w2 x2 r2 => k v2 H2 as2 F2 p2 c2 q w2 (x1.trans x2) r2
theorem ew_notV (h : EW K ta ρ c fun p c1 => ∃ b, p = .bl b ∧ Q (.bl (!b)) c1) : EW K (tNotV ta) ρ c Q := fun σ H as F w e Q' k =>
  h σ H as F w e _ fun v H1 as1 F1 p c1 ⟨b, ep, q⟩ w1 x1 r1 => by
    subst ep; cases r1
    exact ⟨b, rfl, k _ H1 as1 F1 _ c1 q w1 x1 (.bl _)⟩
theorem ew_if (h : TW K tt ρ c fun b c1 => (b = true → EW K ta ρ c1 Q) ∧ (b = false → EW K tb ρ c1 Q)) : EW K (tIf tt ta tb) ρ c Q := fun σ H as F w e Q' k =>
  h σ H as F w e _ fun b H1 as1 F1 c1 ⟨q1, q2⟩ w1 x1 => by
    cases b with
    | true => exact q1 rfl σ H1 as1 F1 w1 (e.xt x1) Q' fun v2 H2 as2 F2 p2 c2 q w2 x2 r2 => k v2 H2 as2 F2 p2 c2 q w2 (x1.trans x2) r2
    | false => exact q2 rfl σ H1 as1 F1 w1 (e.xt x1) Q' fun v2 H2 as2 F2 p2 c2 q w2 x2 r2 => k v2 H2 as2 F2 p2 c2 q w2 (x1.trans x2) r2

/-! ### arguments, displays, calls -/
theorem aw_nil {Q : List P → List Ob → Prop} (q : Q [] c) : AW K tNil ρ c Q := fun σ H as F w e Q' k => k [] H as F [] c q w Xt.refl .nil
theorem aw_cons {Q : List P → List Ob → Prop} (h : EW K te ρ c fun p c1 => AW K tl ρ c1 fun ps c2 => Q (p :: ps) c2) : AW K (tCons te tl) ρ c Q := fun σ H as F w e Q' k =>
  h σ H as F w e _ fun v H1 as1 F1 p c1 h2 w1 x1 r1 => h2 σ H1 as1 F1 w1 (e.xt x1) _ fun vs H2 as2 F2 ps c2 q w2 x2 r2 => k _ H2 as2 F2 _ c2 q w2 (x1.trans x2) (.cons (r1.xt x2) r2)
theorem ew_tup (h : AW K tl ρ c fun ps c1 => ps.length ≤ 100000 ∧ Q (.tup ps) c1) : EW K (tTup tl) ρ c Q := fun σ H as F w e Q' k =>
  h σ H as F w e _ fun vs H1 as1 F1 ps c1 ⟨hl, q⟩ w1 x1 r1 => ⟨sz_of (by rw [r1.length]; exact hl), fun p hp => by
    obtain ⟨w2, x2⟩ := w1.alloc hp (.tup vs)
    exact k _ _ _ _ _ c1 q w2 (x1.trans x2) (.tup (st_of upd_same) (r1.xt x2))⟩
theorem ew_lst (h : AW K tl ρ c fun ps c1 => ps.length ≤ 100000 ∧ Q (.lst ps) c1) : EW K (tLst tl) ρ c Q := fun σ H as F w e Q' k =>
  h σ H as F w e _ fun vs H1 as1 F1 ps c1 ⟨hl, q⟩ w1 x1 r1 => ⟨sz_of (by rw [r1.length]; exact hl), fun p hp => by
    obtain ⟨w2, x2⟩ := w1.alloc hp (.lst vs)
    exact k _ _ _ _ _ c1 q w2 (x1.trans x2) (.lst upd_same (r1.xt x2))⟩
/-- a list display that is to change -/
theorem ew_lstC (h : AW K tl ρ c fun ps c1 => ps.length ≤ 100000 ∧ Q (.cell c1.length) (c1 ++ [.lst ps])) : EW K (tLst tl) ρ c Q := fun σ H as F w e Q' k =>
  h σ H as F w e _ fun vs H1 as1 F1 ps c1 ⟨hl, q⟩ w1 x1 r1 => ⟨sz_of (by rw [r1.length]; exact hl), fun p hp => by
    have hF : F1 p = none := fresh_back w1.sub hp
    obtain ⟨w2, x2⟩ := w1.allocCell hp (.lst vs) (.lst ps) ⟨hF, vs, upd_same, r1.mono (Ex.refl _) (List.prefix_append _ _)⟩
    exact k _ _ _ _ _ _ q w2 (x1.trans x2) (.cell (by rw [← w1.len, List.getElem?_append_right (Nat.le_refl _), Nat.sub_self]; rfl))⟩

/-- a def's promise over pure values and cells -/
abbrev PSp := List P → List Ob → PQ → Prop
def SpOf (K : PySem.W.Frag) (S : PSp) : Sp := fun vs H Q _ => ∃ as F c ps Qp, Wd K H as F c ∧ Reps K F as vs ps ∧ S ps c Qp ∧ ∀ v H' as' F' p c', Qp p c' → Wd K H' as' F' c' → Xt H as F H' as' F' → Rep K F' as' v p → Q v H'
theorem ew_call {S : PSp} {E : XK} (h : AW K tl ρ c fun ps c1 => S ps c1 Q) : EW K (tCall (SpOf K S) [] E tl) ρ c Q := fun σ H as F w e Q' k =>
  h σ H as F w e _ fun vs H1 as1 F1 ps c1 hs w1 x1 r1 => ⟨as1, F1, c1, ps, Q, w1, by rw [List.append_nil]; exact r1, hs, fun v H2 as2 F2 p c2 q w2 x2 r2 => k v H2 as2 F2 p c2 q w2 (x1.trans x2) r2⟩

/-! ### statements -/
theorem sw_seq {t u : TS} (h : SW K t ρ c { D with nx := fun ρ' c' => SW K u ρ' c' D }) : SW K (tSeq t u) ρ c D := fun σ H as F w e D' k =>
  h σ H as F w e { D' with nx := u D' } ⟨fun σ2 H2 as2 F2 ρ2 c2 q w2 x2 e2 => q σ2 H2 as2 F2 w2 e2 D' (k.xt x2), k.rt, k.bk, k.ct⟩
theorem sw_next (q : D.nx ρ c) : SW K tNext ρ c D := fun σ H as F w e D' k => k.nx σ H as F ρ c q w Xt.refl e
theorem sw_break (q : D.bk ρ c) : SW K tBreak ρ c D := fun σ H as F w e D' k => k.bk σ H as F ρ c q w Xt.refl e
theorem sw_cont (q : D.ct ρ c) : SW K tCont ρ c D := fun σ H as F w e D' k => k.ct σ H as F ρ c q w Xt.refl e
theorem sw_drop (h : EW K te ρ c fun _ c1 => D.nx ρ c1) : SW K (tDrop te) ρ c D := fun σ H as F w e D' k =>
  h σ H as F w e _ fun v H1 as1 F1 p c1 q w1 x1 r1 => k.nx σ H1 as1 F1 ρ c1 q w1 x1 (e.xt x1)
theorem sw_ret (h : EW K te ρ c D.rt) : SW K (tRet te) ρ c D := fun σ H as F w e D' k =>
  h σ H as F w e _ fun v H1 as1 F1 p c1 q w1 x1 r1 => k.rt v H1 as1 F1 p c1 q w1 x1 r1
theorem sw_retN (q : D.rt .non c) : SW K tRetN ρ c D := fun σ H as F w e D' k => k.rt _ H as F _ c q w Xt.refl .non
theorem sw_if {t u : TS} (h : TW K tt ρ c fun b c1 => (b = true → SW K t ρ c1 D) ∧ (b = false → SW K u ρ c1 D)) : SW K (tIfS tt t u) ρ c D := fun σ H as F w e D' k =>
  h σ H as F w e _ fun b H1 as1 F1 c1 ⟨q1, q2⟩ w1 x1 => by
    cases b with
    | true => exact q1 rfl σ H1 as1 F1 w1 (e.xt x1) D' (k.xt x1)
    | false => exact q2 rfl σ H1 as1 F1 w1 (e.xt x1) D' (k.xt x1)
theorem gw_name {i : Nat} {p : P} {Q : PR → List Ob → Prop} (q : Q (ρ.set i (some p)) c) : GW K (gName i) p ρ c Q := fun v σ H as F w e r Q' k => k _ H as F _ c q w Xt.refl (e.set r i)
theorem gws_nil {Q : PR → List Ob → Prop} (q : Q ρ c) : GWs K gNil [] ρ c Q := fun vs σ H as F w e r Q' k => by
  cases r
  exact ⟨rfl, k _ H as F _ c q w Xt.refl e⟩
theorem gws_cons {g : TG} {gs : TGs} {p : P} {ps : List P} {Q : PR → List Ob → Prop} (h : GW K g p ρ c fun ρ' c' => GWs K gs ps ρ' c' Q) : GWs K (gCons g gs) (p :: ps) ρ c Q := fun vs σ H as F w e r Q' k => by
  cases r with
  | cons r1 r2 =>
    refine ⟨_, _, rfl, h _ σ H as F w e r1 _ fun σ2 H2 as2 F2 ρ2 c2 q w2 x2 e2 => ?_⟩
    exact q _ σ2 H2 as2 F2 w2 e2 (r2.xt x2) Q' (k.xt x2)
theorem gw_tup {n : Nat} {gs : TGs} {ps : List P} {Q : PR → List Ob → Prop} (hn : ps.length = n) (h : GWs K gs ps ρ c Q) : GW K (gTup K n gs) (.tup ps) ρ c Q := fun v σ H as F w e r Q' k => by
  cases r with
  | @tup a xs _ h1 h2 => exact ⟨a, xs, rfl, ex_t w.sub h1, by rw [h2.length]; exact hn, h _ σ H as F w e h2 Q' k⟩
theorem sw_asg {g : TG} (h : EW K te ρ c fun p c1 => GW K g p ρ c1 D.nx) : SW K (tAsg te g) ρ c D := fun σ H as F w e D' k =>
  h σ H as F w e _ fun v H1 as1 F1 p c1 q w1 x1 r1 => q v σ H1 as1 F1 w1 (e.xt x1) r1 _ (k.nx.xt x1)
theorem sw_set {i : Nat} (h : EW K te ρ c fun p c1 => D.nx (ρ.set i (some p)) c1) : SW K (tAsg te (gName i)) ρ c D := sw_asg (h.mono fun _ _ q => gw_name q)
theorem sw_par {i j : Nat} (h : AW K tl ρ c fun ps c1 => ∃ p q, ps = [p, q] ∧ D.nx ((ρ.set i (some p)).set j (some q)) c1) : SW K (tPar i j tl) ρ c D := fun σ H as F w e D' k =>
  h σ H as F w e _ fun vs H1 as1 F1 ps c1 ⟨p, q, ep, hq⟩ w1 x1 r1 => by
    subst ep
    cases r1 with
    | cons r1 r2 =>
      cases r2 with
      | cons r2 r3 =>
        cases r3
        exact ⟨_, _, rfl, k.nx _ H1 as1 F1 _ c1 hq w1 x1 (((e.xt x1).set r1 i).set r2 j)⟩
theorem sw_augI {i : Nat} {f : Int → Int → Int} {a : Int} (hx : ρ[i]? = some (some (.int a))) (h : EW K te ρ c fun p c1 => ∃ b, p = .int b ∧ D.nx (ρ.set i (some (.int (f a b)))) c1) : SW K (tAug i te (ipI f)) ρ c D := fun σ H as F w e D' k => by
  obtain ⟨v, e1, r⟩ := e.2 i _ hx
  cases r
  refine ⟨_, e1, h σ H as F w e _ fun v H1 as1 F1 p c1 ⟨b, ep, q⟩ w1 x1 r1 => ?_⟩
  subst ep; cases r1
  exact ⟨a, b, rfl, rfl, k.nx _ H1 as1 F1 _ c1 q w1 x1 ((e.xt x1).set (.int _) i)⟩
theorem sw_cut {t u : TS} (Mid : PR → List Ob → Prop) (h1 : SW K t ρ c { D with nx := Mid }) (h2 : ∀ ρ' c', Mid ρ' c' → SW K u ρ' c' D) : SW K (tCut t u) ρ c D := fun σ H as F w e D' k =>
  ⟨fun σ' H' => ∃ as' F' ρ' c', Mid ρ' c' ∧ Wd K H' as' F' c' ∧ Xt H as F H' as' F' ∧ Env K F' as' σ' ρ',
    h1 σ H as F w e { D' with nx := _ } ⟨fun σ2 H2 as2 F2 ρ2 c2 q w2 x2 e2 => ⟨as2, F2, ρ2, c2, q, w2, x2, e2⟩, k.rt, k.bk, k.ct⟩,
    fun σ' H' ⟨as', F', ρ', c', q, w', x', e'⟩ => h2 ρ' c' q σ' H' as' F' w' e' D' (k.xt x')⟩
/-- a cell becomes a value, in a slot -/
theorem sw_freeze {t : TS} {i n : Nat} {xs : List P} (hr : ρ[i]? = some (some (.cell n))) (hc : c[n]? = some (.lst xs)) (h : SW K t (ρ.set i (some (.lst xs))) (c.set n .dead) D) : SW K t ρ c D := fun σ H as F w e D' k => by
  obtain ⟨v, e1, r⟩ := e.2 i _ hr
  cases r with
  | @cell _ a hn =>
    obtain ⟨F', w', x', r'⟩ := w.freeze hn hc
    refine h σ H as F' w' ?_ D' (k.xt x')
    have q := (e.xt x').set r' i
    have es : σ.set i (some (.ref a)) = σ := by
      refine List.ext_getElem? fun j => ?_
      by_cases hj : i = j
      · subst hj
        rw [List.getElem?_set_self (List.getElem?_eq_some_iff.mp e1).1, e1]
      · rw [List.getElem?_set_ne hj]
    rw [es] at q
    exact q
/-- while -/
theorem sw_while {tb : TS} (W : Nat → PR → List Ob → Prop) (m0 : Nat) (h0 : W m0 ρ c)
    (hs : ∀ m ρ' c', W m ρ' c' → TW K tt ρ' c' fun b c1 => (b = true → ∃ N : PR → List Ob → Prop, (∀ ρ2 c2, N ρ2 c2 → ∃ m', m' < m ∧ W m' ρ2 c2) ∧ SW K tb ρ' c1 { D with nx := N, ct := N, bk := D.nx }) ∧ (b = false → D.nx ρ' c1)) : SW K (tWhile tt tb) ρ c D := fun σ H as F w e D' k =>
  ⟨fun m σ' H' => ∃ as' F' ρ' c', W m ρ' c' ∧ Wd K H' as' F' c' ∧ Xt H as F H' as' F' ∧ Env K F' as' σ' ρ', ⟨m0, as, F, ρ, c, h0, w, Xt.refl, e⟩, fun m σ1 H1 ⟨as1, F1, ρ1, c1, q1, w1, x1, e1⟩ =>
    hs m ρ1 c1 q1 σ1 H1 as1 F1 w1 e1 _ fun b H2 as2 F2 c2 ⟨y1, y2⟩ w2 x2 => by
      cases b with
      | true =>
        obtain ⟨N, hN, hb⟩ := y1 rfl
        refine ⟨fun σ' H' => ∃ as' F' ρ' c', N ρ' c' ∧ Wd K H' as' F' c' ∧ Xt H as F H' as' F' ∧ Env K F' as' σ' ρ', fun σ' H' ⟨as', F', ρ', c', qn, w', x', e'⟩ => ?_, ?_⟩
        · obtain ⟨m', hm, hw⟩ := hN ρ' c' qn
          exact ⟨m', hm, as', F', ρ', c', hw, w', x', e'⟩
        · have kk := k.xt (x1.trans x2)
          have nk : NxOk K H2 as2 F2 N fun σ' H' => ∃ as' F' ρ' c', N ρ' c' ∧ Wd K H' as' F' c' ∧ Xt H as F H' as' F' ∧ Env K F' as' σ' ρ' :=
            fun σ' H' as' F' ρ' c' q' w' x' e' => ⟨as', F', ρ', c', q', w', (x1.trans x2).trans x', e'⟩
          exact hb σ1 H2 as2 F2 w2 (e1.xt x2) _ ⟨nk, kk.rt, kk.nx, nk⟩
      | false => exact k.nx σ1 H2 as2 F2 ρ1 c2 (y2 rfl) w2 (x1.trans x2) (e1.xt x2)⟩
/-- for -/
theorem sw_for {wi : TI} {g : TG} {tb : TS} (h : IW K wi ρ c fun items c1 => ∃ Pv : Nat → PR → List Ob → Prop, Pv 0 ρ c1 ∧
      (∀ i p ρ' c', items[i]? = some p → Pv i ρ' c' → GW K g p ρ' c' fun ρ2 c2 => SW K tb ρ2 c2 { D with nx := Pv (i + 1), ct := Pv (i + 1), bk := D.nx }) ∧ ∀ ρ' c', Pv items.length ρ' c' → D.nx ρ' c') : SW K (tFor wi g tb) ρ c D := fun σ H as F w e D' k =>
  h σ H as F w e _ fun J H1 as1 F1 items c1 ⟨Pv, h0, hs, hd⟩ w1 x1 hJ => by
    refine ⟨fun i m σ' H' => i + m = items.length ∧ ∃ as' F' ρ' c', Pv i ρ' c' ∧ Wd K H' as' F' c' ∧ Xt H1 as1 F1 H' as' F' ∧ Env K F' as' σ' ρ', ⟨items.length, Nat.zero_add _, as1, F1, ρ, c1, h0, w1, Xt.refl, e.xt x1⟩, fun i m σ2 H2 ⟨im, as2, F2, ρ2, c2, q2, w2, x2, e2⟩ => ?_⟩
    obtain ⟨js, jg⟩ := hJ i H2 as2 F2 c2 w2 x2.mono x2.pre
    by_cases hi : i < items.length
    · obtain ⟨j1, j2⟩ := jg _ (List.getElem?_eq_getElem hi)
      refine .inr ⟨j1, fun σ' H' => ∃ as' F' ρ' c', Pv (i + 1) ρ' c' ∧ Wd K H' as' F' c' ∧ Xt H1 as1 F1 H' as' F' ∧ Env K F' as' σ' ρ', fun σ' H' ⟨as', F', ρ', c', q', w', x', e'⟩ => ⟨m - 1, by omega, by omega, as', F', ρ', c', q', w', x', e'⟩, fun x H3 hy => ?_⟩
      obtain ⟨F3, w3, x3, r3⟩ := j2 x H3 hy
      refine hs i _ ρ2 c2 (List.getElem?_eq_getElem hi) q2 x σ2 H3 as2 F3 w3 (e2.xt x3) r3 _ fun σ4 H4 as4 F4 ρ4 c4 q4 w4 x4 e4 => ?_
      have kk := k.xt (((x1.trans x2).trans x3).trans x4)
      have nk : NxOk K H4 as4 F4 (Pv (i + 1)) fun σ' H' => ∃ as' F' ρ' c', Pv (i + 1) ρ' c' ∧ Wd K H' as' F' c' ∧ Xt H1 as1 F1 H' as' F' ∧ Env K F' as' σ' ρ' :=
        fun σ' H' as' F' ρ' c' q' w' x' e' => ⟨as', F', ρ', c', q', w', ((x2.trans x3).trans x4).trans x', e'⟩
      exact q4 σ4 H4 as4 F4 w4 e4 _ ⟨nk, kk.rt, kk.nx, nk⟩
    · have hi' : i = items.length := by omega
      exact .inl ⟨js (by omega), k.nx σ2 H2 as2 F2 ρ2 c2 (hd ρ2 c2 (hi' ▸ q2)) w2 (x1.trans x2) e2⟩

/-! ### what is walked -/
theorem jok_list {a : Addr} {xs : List V} {ps : List P} (h : SqL K F a xs) (r : Reps K F as xs ps) : JOk K (Itl K a) F as ps := fun i H2 as2 F2 c2 w2 m pre => by
  have h2 : SqL K H2 a xs := ex_l (Ex.trans m w2.sub) h
  refine ⟨fun hi => ⟨xs, h2, by rw [r.length]; exact hi⟩, fun p e => ?_⟩
  obtain ⟨v, e1, r1⟩ := r.get e
  refine ⟨⟨xs, v, h2, e1⟩, fun x H3 ⟨eH, hx⟩ => ⟨F2, by rw [eH]; exact w2, by rw [eH]; exact Xt.refl, ?_⟩⟩
  have ex : x = v := Option.some.inj ((hx xs h2).symm.trans e1)
  rw [ex]
  exact r1.mono m pre
theorem jok_tup {a : Addr} {xs : List V} {ps : List P} (h : SqT K F a xs) (r : Reps K F as xs ps) : JOk K (Itt K a) F as ps := fun i H2 as2 F2 c2 w2 m pre => by
  have h2 : SqT K H2 a xs := ex_t (Ex.trans m w2.sub) h
  refine ⟨fun hi => ⟨xs, h2, by rw [r.length]; exact hi⟩, fun p e => ?_⟩
  obtain ⟨v, e1, r1⟩ := r.get e
  refine ⟨⟨xs, v, h2, e1⟩, fun x H3 ⟨eH, hx⟩ => ⟨F2, by rw [eH]; exact w2, by rw [eH]; exact Xt.refl, ?_⟩⟩
  have ex : x = v := Option.some.inj ((hx xs h2).symm.trans e1)
  rw [ex]
  exact r1.mono m pre
def rangeP (lo : Int) (n : Nat) : List P := (List.range n).map fun (i : Nat) => P.int (lo + (i : Int))
theorem rangeP_len (lo : Int) (n : Nat) : (rangeP lo n).length = n := by unfold rangeP; rw [List.length_map, List.length_range]
theorem rangeP_get {lo : Int} {n i : Nat} {p : P} (h : (rangeP lo n)[i]? = some p) : p = .int (lo + (i : Int)) ∧ i < n := by
  unfold rangeP at h
  rw [List.getElem?_map] at h
  by_cases hi : i < n
  · rw [List.getElem?_eq_getElem (by rw [List.length_range]; exact hi), List.getElem_range] at h
    exact ⟨(Option.some.inj h).symm, hi⟩
  · rw [List.getElem?_eq_none (by rw [List.length_range]; omega)] at h
    cases h
theorem jok_range {lo : Int} {n : Nat} : JOk K (Itr lo n) F as (rangeP lo n) := fun i H2 as2 F2 c2 w2 m pre => by
  refine ⟨fun hi => by rw [rangeP_len] at hi; exact hi, fun p e => ?_⟩
  obtain ⟨rfl, hi⟩ := rangeP_get e
  exact ⟨hi, fun x H3 ⟨eH, ex⟩ => ⟨F2, by rw [eH]; exact w2, by rw [eH]; exact Xt.refl, by rw [ex]; exact .int _⟩⟩
theorem iw_list {Q : List P → List Ob → Prop} (h : EW K te ρ c fun p c1 => ∃ ps, p = .lst ps ∧ Q ps c1) : IW K (iList K te) ρ c Q := fun σ H as F w e R k =>
  h σ H as F w e _ fun v H1 as1 F1 p c1 ⟨ps, ep, q⟩ w1 x1 r1 => by
    subst ep
    cases r1 with
    | @lst a xs _ h1 h2 => exact ⟨a, rfl, ⟨xs, sq_of (w1.sub _ _ h1)⟩, k _ H1 as1 F1 ps c1 q w1 x1 (jok_list (sq_of h1) h2)⟩
theorem iw_tup {Q : List P → List Ob → Prop} (h : EW K te ρ c fun p c1 => ∃ ps, p = .tup ps ∧ Q ps c1) : IW K (iTup K te) ρ c Q := fun σ H as F w e R k =>
  h σ H as F w e _ fun v H1 as1 F1 p c1 ⟨ps, ep, q⟩ w1 x1 r1 => by
    subst ep
    cases r1 with
    | @tup a xs _ h1 h2 => exact ⟨a, rfl, ⟨xs, ex_t w1.sub h1⟩, k _ H1 as1 F1 ps c1 q w1 x1 (jok_tup h1 h2)⟩
theorem iw_rng1 {Q : List P → List Ob → Prop} (h : AW K tl ρ c fun ps c1 => ∃ n : Int, ps = [.int n] ∧ (-(2 ^ 62) ≤ n ∧ n < 2 ^ 62) ∧ Q (rangeP 0 n.toNat) c1) : IW K (iRng1 tl) ρ c Q := fun σ H as F w e R k =>
  h σ H as F w e _ fun vs H1 as1 F1 ps c1 ⟨n, ep, ⟨b1, b2⟩, q⟩ w1 x1 r1 => by
    subst ep
    cases r1 with
    | cons r1 r2 => cases r1; cases r2; exact ⟨n, rfl, b1, b2, k _ H1 as1 F1 _ c1 q w1 x1 jok_range⟩
theorem iw_rng2 {Q : List P → List Ob → Prop} (h : AW K tl ρ c fun ps c1 => ∃ m n : Int, ps = [.int m, .int n] ∧ (-(2 ^ 62) ≤ m ∧ m < 2 ^ 62 ∧ -(2 ^ 62) ≤ n ∧ n < 2 ^ 62) ∧ Q (rangeP m (n - m).toNat) c1) : IW K (iRng2 tl) ρ c Q := fun σ H as F w e R k =>
  h σ H as F w e _ fun vs H1 as1 F1 ps c1 ⟨m, n, ep, b, q⟩ w1 x1 r1 => by
    subst ep
    cases r1 with
    | cons r1 r2 =>
      cases r1
      cases r2 with
      | cons r2 r3 => cases r2; cases r3; exact ⟨m, n, rfl, b, k _ H1 as1 F1 _ c1 q w1 x1 jok_range⟩

/-! ### comprehensions -/
/-- a target that stores in a comprehension's own slots -/
def GC (g : TG) (vs : List Nat) : Prop := ∀ v σ0 σ H (Q Q2 : L2.St → Hp → Prop), L2.wipe σ vs = L2.wipe σ0 vs → g v σ H Q → (∀ σ2 H2, Q σ2 H2 → L2.wipe σ2 vs = L2.wipe σ0 vs → Q2 σ2 H2) → g v σ H Q2
def GCs (g : TGs) (vs : List Nat) : Prop := ∀ v σ0 σ H (Q Q2 : L2.St → Hp → Prop), L2.wipe σ vs = L2.wipe σ0 vs → g v σ H Q → (∀ σ2 H2, Q σ2 H2 → L2.wipe σ2 vs = L2.wipe σ0 vs → Q2 σ2 H2) → g v σ H Q2
theorem wipe_get {σ : L2.St} {i : Nat} : ∀ vs : List Nat, (L2.wipe σ vs)[i]? = if i ∈ vs ∧ i < σ.length then some none else σ[i]?
  | [] => by simp [L2.wipe]
  | v :: vs => by
    show ((L2.wipe σ vs).set v none)[i]? = _
    by_cases hv : v = i
    · subst hv
      by_cases hl : v < σ.length
      · rw [List.getElem?_set_self (by rw [L2.wipe_length]; exact hl), if_pos ⟨List.mem_cons_self, hl⟩]
      · rw [if_neg (fun z => hl z.2), List.getElem?_eq_none (by rw [List.length_set, L2.wipe_length]; omega), List.getElem?_eq_none (by omega)]
    · rw [List.getElem?_set_ne hv, wipe_get vs]
      have e : (i ∈ v :: vs ∧ i < σ.length) = (i ∈ vs ∧ i < σ.length) := by
        rw [List.mem_cons]
        apply propext
        exact ⟨fun ⟨a, b⟩ => ⟨a.resolve_left fun z => hv z.symm, b⟩, fun ⟨a, b⟩ => ⟨.inr a, b⟩⟩
      simp only [e]
theorem wipe_wipe (σ : L2.St) (vs : List Nat) : L2.wipe (L2.wipe σ vs) vs = L2.wipe σ vs := by
  refine List.ext_getElem? fun i => ?_
  rw [wipe_get vs, wipe_get vs, L2.wipe_length]
  split <;> rfl
theorem wipe_set {σ : L2.St} {j : Nat} {o : Option V} {vs : List Nat} (h : j ∈ vs) : L2.wipe (σ.set j o) vs = L2.wipe σ vs := by
  refine List.ext_getElem? fun i => ?_
  rw [wipe_get vs, wipe_get vs, List.length_set]
  split
  · rfl
  · rename_i hn
    by_cases hi : j = i
    · subst hi
      have hl : ¬ j < σ.length := fun z => hn ⟨h, z⟩
      rw [List.getElem?_eq_none (by rw [List.length_set]; omega), List.getElem?_eq_none (by omega)]
    · rw [List.getElem?_set_ne hi]
theorem gc_name {i : Nat} {vs : List Nat} (h : i ∈ vs) : GC (gName i) vs := fun v σ0 σ H Q Q2 e q k => k _ _ q (by rw [wipe_set h]; exact e)
theorem gcs_nil {vs : List Nat} : GCs gNil vs := fun v σ0 σ H Q Q2 e ⟨q1, q2⟩ k => ⟨q1, k _ _ q2 e⟩
theorem gcs_cons {g : TG} {gs : TGs} {vs : List Nat} (h1 : GC g vs) (h2 : GCs gs vs) : GCs (gCons g gs) vs := fun v σ0 σ H Q Q2 e ⟨x, r, ex, q⟩ k =>
  ⟨x, r, ex, h1 x σ0 σ H _ _ e q fun σ2 H2 q2 e2 => h2 r σ0 σ2 H2 Q Q2 e2 q2 k⟩
theorem gc_tup {n : Nat} {gs : TGs} {vs : List Nat} (h : GCs gs vs) : GC (gTup K n gs) vs := fun v σ0 σ H Q Q2 e ⟨a, xs, ev, hs, hl, q⟩ k => ⟨a, xs, ev, hs, hl, h xs σ0 σ H Q Q2 e q k⟩
theorem ew_lc {wi : TI} {g : TG} {vs : List Nat} (hg : GC g vs) (h : IW K wi ρ c fun items c1 => items.length ≤ 100000 ∧ ∃ Pv : Nat → List P → List Ob → Prop, Pv 0 [] c1 ∧
      (∀ i p acc c', items[i]? = some p → Pv i acc c' → GW K g p (wipeP ρ vs) c' fun ρ2 c2 => TW K tt ρ2 c2 fun b c3 => (b = true → EW K te ρ2 c3 fun y c4 => Pv (i + 1) (acc ++ [y]) c4) ∧ (b = false → Pv (i + 1) acc c3)) ∧
      ∀ acc c', Pv items.length acc c' → Q (.lst acc) c') : EW K (tLc wi g tt te vs) ρ c Q := fun σ H as F w e Q' k =>
  h σ H as F w e _ fun J H1 as1 F1 items c1 ⟨hlen, Pv, h0, hs, hd⟩ w1 x1 hJ Dl hD => by
    have nD : Dl ∉ as1 := w1.new hD
    have fD : F1 Dl = none := fresh_back w1.sub hD
    have e1 := e.xt x1
    refine ⟨fun i m H' => i + m = items.length ∧ ∃ as' F' acc xs c', Pv i acc c' ∧ acc.length ≤ i ∧ Wd K H' as' F' c' ∧ Xt H1 as1 F1 H' as' F' ∧ H' Dl = some (.lst xs) ∧ Dl ∉ as' ∧ F' Dl = none ∧ Reps K F' as' xs acc,
      ⟨items.length, Nat.zero_add _, as1, F1, [], [], c1, h0, Nat.le_refl 0, w1.priv nD fD _, Xt.refl.priv hD _, upd_same, nD, fD, .nil⟩, fun i m H2 ⟨im, as2, F2, acc, xs, c2, q2, la, w2, x2, hH, nD2, fD2, r2⟩ => ?_⟩
    obtain ⟨js, jg⟩ := hJ i H2 as2 F2 c2 w2 x2.mono x2.pre
    by_cases hi : i < items.length
    · obtain ⟨j1, j2⟩ := jg _ (List.getElem?_eq_getElem hi)
      refine .inr ⟨j1, fun H' => ∃ as' F' acc xs c', Pv (i + 1) acc c' ∧ acc.length ≤ i + 1 ∧ Wd K H' as' F' c' ∧ Xt H1 as1 F1 H' as' F' ∧ H' Dl = some (.lst xs) ∧ Dl ∉ as' ∧ F' Dl = none ∧ Reps K F' as' xs acc,
        fun H' ⟨as', F', acc', xs', c', q'⟩ => ⟨m - 1, by omega, by omega, as', F', acc', xs', c', q'⟩, fun x H3 hy => ?_⟩
      obtain ⟨F3, w3, x3, r3⟩ := j2 x H3 hy
      have priv : ∀ {H4 : Hp} {as4 : List Addr} {F4 : Hp}, Xt H2 as2 F2 H4 as4 F4 → H4 Dl = some (.lst xs) ∧ Dl ∉ as4 ∧ F4 Dl = none := fun {H4 as4 F4} y => by
        refine ⟨y.frame _ _ hH nD2, fun hm => ?_, ?_⟩
        · rcases y.fresh _ hm with z | z
          · exact nD2 z
          · rw [hH] at z; cases z
        · cases ef : F4 Dl with
          | none => rfl
          | some o =>
            rcases y.own _ _ ef with z | z | z
            · rw [fD2] at z; cases z
            · rw [hH] at z; cases z
            · exact absurd z nD2
      refine hg x σ (L2.wipe σ vs) H3 (fun σ4 H4 => tt σ4 H4 fun b H5 => if b = true then te σ4 H5 fun y H6 => ∃ acc, H6 Dl = some (.lst acc) ∧ acc.length < sizeLine ∧
          (∃ as' F' acc' xs' c', Pv (i + 1) acc' c' ∧ acc'.length ≤ i + 1 ∧ Wd K (upd H6 Dl (.lst (acc ++ [y]))) as' F' c' ∧ Xt H1 as1 F1 (upd H6 Dl (.lst (acc ++ [y]))) as' F' ∧ (upd H6 Dl (.lst (acc ++ [y]))) Dl = some (.lst xs') ∧ Dl ∉ as' ∧ F' Dl = none ∧ Reps K F' as' xs' acc')
          else (∃ as' F' acc' xs' c', Pv (i + 1) acc' c' ∧ acc'.length ≤ i + 1 ∧ Wd K H5 as' F' c' ∧ Xt H1 as1 F1 H5 as' F' ∧ H5 Dl = some (.lst xs') ∧ Dl ∉ as' ∧ F' Dl = none ∧ Reps K F' as' xs' acc')) _ (wipe_wipe σ vs) ?_ fun σ2 H4 q e => ⟨e, q⟩
      refine hs i _ acc c2 (List.getElem?_eq_getElem hi) q2 x (L2.wipe σ vs) H3 as2 F3 w3 ((e1.xt (x2.trans x3)).wipe vs) r3 _ fun σ4 H4 as4 F4 ρ4 c4 q4 w4 x4 e4 => ?_
      refine q4 σ4 H4 as4 F4 w4 e4 _ fun b H5 as5 F5 c5 ⟨y1, y2⟩ w5 x5 => ?_
      have x25 := (x3.trans x4).trans x5
      cases b with
      | false =>
        obtain ⟨z1, z2, z3⟩ := priv x25
        exact ⟨as5, F5, acc, xs, c5, y2 rfl, by omega, w5, x2.trans x25, z1, z2, z3, r2.xt x25⟩
      | true =>
        refine y1 rfl σ4 H5 as5 F5 w5 (e4.xt x5) _ fun v H6 as6 F6 p c6 q6 w6 x6 r6 => ?_
        have x26 := x25.trans x6
        obtain ⟨z1, z2, z3⟩ := priv x26
        have lx : xs.length = acc.length := r2.length
        exact ⟨xs, z1, sz_lt (by omega), as6, F6, acc ++ [p], xs ++ [v], c6, q6, by rw [List.length_append]; exact Nat.add_le_add_right la 1, w6.priv z2 z3 _, (x2.trans x26).priv hD _, upd_same, z2, z3, (r2.xt x26).append (.cons r6 .nil)⟩
    · have hi' : i = items.length := by omega
      refine .inl ⟨js (by omega), k _ H2 as2 (upd F2 Dl (.lst xs)) _ c2 (hd acc c2 (hi' ▸ q2)) (w2.keep nD2 hH fD2) (x1.trans (x2.keep hD fD2 _)) (.lst upd_same (r2.mono (Ex.new fD2) List.prefix_rfl))⟩
end
end PL

set_option Elab.async false
set_option linter.all false
set_option maxRecDepth 100000
set_option maxHeartbeats 2000000
namespace PL
open PySem PySem.Spec PyProof.Rows L2 Evl

section
variable {K : PySem.W.Frag} {F H : Hp} {as : List Addr} {c : List Ob} {ρ : PR} {Q : PQ} {D : PEnds} {te ta tb : TE} {tt t1 t2 : TT} {tl : TA}

/-! ### a def -/
def startP (N : List Str) (ps : List P) : PR := ps.map some ++ List.replicate (N.length - ps.length) none
/-- what is handed back; cells at the end may be forgotten -/
def RtOk (c : List Ob) (Q : PQ) : PQ := fun p c' => Q p c' ∨ ∃ c0 ex, c' = c0 ++ ex ∧ c.length ≤ c0.length ∧ (∀ o ∈ c0, Ob.bel c0.length o = true) ∧ p.bel c0.length = true ∧ Q p c0
theorem env_start {N : List Str} {vs : List V} {ps : List P} (r : Reps K F as vs ps) : Env K F as (L2.start N vs) (startP N ps) := by
  have hl := r.length
  refine ⟨by unfold L2.start startP; rw [List.length_append, List.length_append, List.length_map, List.length_map, hl, List.length_replicate, List.length_replicate], fun i p e => ?_⟩
  unfold startP at e
  unfold L2.start
  by_cases hi : i < ps.length
  · rw [List.getElem?_append_left (by rw [List.length_map]; exact hi), List.getElem?_map] at e
    rw [List.getElem?_append_left (by rw [List.length_map, hl]; exact hi), List.getElem?_map]
    rw [List.getElem?_eq_getElem hi] at e
    obtain ⟨v, e1, r1⟩ := r.get (List.getElem?_eq_getElem hi)
    rw [e1]
    cases e
    exact ⟨v, rfl, r1⟩
  · rw [List.getElem?_append_right (by rw [List.length_map]; omega)] at e
    have := List.mem_of_getElem? e
    rw [List.mem_replicate] at this
    cases this.2
theorem reach {S : PSp} {qs : List P} {vs : List V} {H' : Hp} {as' : List Addr} {F' : Hp} {c' : List Ob} {p : P} {v : V} {Qp : PQ} (w : Wd K H as F c) (q : RtOk c Qp p c') (w' : Wd K H' as' F' c') (x' : Xt H as F H' as' F') (r' : Rep K F' as' v p) :
    ∃ as2 c2, Qp p c2 ∧ Wd K H' as2 F' c2 ∧ Xt H as F H' as2 F' ∧ Rep K F' as2 v p := by
  rcases q with q | ⟨c0, ex, rfl, hl, hb, hp, q⟩
  · exact ⟨as', c', q, w', x', r'⟩
  · have h1 : c0.length ≤ as'.length := by rw [w'.len, List.length_append]; exact Nat.le_add_right _ _
    have hlen : (as'.take c0.length).length = c0.length := by rw [List.length_take]; exact Nat.min_eq_left h1
    have ea : as'.take c0.length ++ as'.drop c0.length = as' := List.take_append_drop _ _
    refine ⟨as'.take c0.length, c0, q, w'.drop hb, ⟨?_, x'.mono, x'.frame, fun a ha => x'.fresh a (List.mem_of_mem_take ha), x'.own⟩, ?_⟩
    · obtain ⟨t, rfl⟩ := x'.pre
      have h2 : as.length ≤ c0.length := by rw [w.len]; exact hl
      rw [List.take_append, List.take_of_length_le h2]
      exact List.prefix_append _ _
    · rw [← ea] at r'
      exact r'.cut (by rw [hlen]; exact hp)
theorem pfn_ok {P₀ : Program} {w : World} {mg : Str → Option Value} {base : Heap} {x qual : Str} {st : Stmt} {f : Addr} {fd : FuncData} {N ps : List Str} {k : Nat} {S : PSp} (Fn : L2.Fun K x qual st f fd) (sc : FnScope N ps (defScope st))
    (hl : ∀ qs c Q, S qs c Q → qs.length = ps.length)
    (body : ∀ (cdv : Value) (A : Around) (outer : List PySem.Env) (s : Shared) (H : Hp) (E : XK), Room k (A.deeper (envOfC qual (defScope st) s.heap.objs.size f cdv)) →
      ∃ t, PSs (cxOf CX0 P₀ w K mg base N qual (defScope st) f cdv A outer s H E).nox (defBody st) t ∧ ∀ qs c Q, S qs c Q → (∀ o ∈ c, Ob.bel c.length o = true) → SW K t (startP N qs) c { nx := fun _ c' => RtOk c Q .non c', rt := RtOk c Q }) :
    FnOk P₀ w K mg base CX0 (k + 1) f fd ps (SpOf K S) := by
  refine Fn.ok sc (fun vs H Q E h => ?_) (fun cdv A outer s H vs Q E hr h => ?_)
  · obtain ⟨as, F, c, qs, Qp, w, r, hs, _⟩ := h
    rw [r.length]; exact hl qs c Qp hs
  · obtain ⟨as, F, c, qs, Qp, w, r, hs, kk⟩ := h
    obtain ⟨t, hp, hw⟩ := body cdv A outer s H E hr
    refine ⟨t, hp, hw qs c Qp hs w.bel (L2.start N vs) H as F w (env_start r) _ ⟨fun σ' H' as' F' ρ' c' q w' x' e' => ?_, fun v H' as' F' p c' q w' x' r' => ?_, fun _ _ _ _ _ _ q => q.elim, fun _ _ _ _ _ _ q => q.elim⟩⟩
    · obtain ⟨as2, c2, q2, w2, x2, r2⟩ := reach (S := S) (qs := qs) (vs := vs) w q w' x' (.non)
      exact kk _ H' as2 F' _ c2 q2 w2 x2 r2
    · obtain ⟨as2, c2, q2, w2, x2, r2⟩ := reach (S := S) (qs := qs) (vs := vs) w q w' x' r'
      exact kk v H' as2 F' p c2 q2 w2 x2 r2
theorem ps_dead {X : Cx} {st : Stmt} : PS X st tNever := ⟨fun _ _ _ _ _ _ h => h.elim⟩

/-! ### lists wherever they are -/
inductive LstOf (c : List Ob) : P → List P → Prop
  | lst (xs : List P) : LstOf c (.lst xs) xs
  | klst (xs : List P) : LstOf c (.klst xs) xs
  | cell {n : Nat} {xs : List P} : c[n]? = some (.lst xs) → LstOf c (.cell n) xs
theorem LstOf.at {p : P} {ps : List P} {v : V} (h : LstOf c p ps) (w : Wd K H as F c) (r : Rep K F as v p) : ∃ a xs, v = .ref a ∧ SqL K H a xs ∧ Reps K F as xs ps := by
  cases h with
  | lst => cases r with | lst h1 h2 => exact ⟨_, _, rfl, sq_of (w.sub _ _ h1), h2⟩
  | klst => cases r with | klst h1 h2 => exact ⟨_, _, rfl, ex_l w.sub h1, h2⟩
  | cell h =>
    cases r with
    | cell h1 =>
      obtain ⟨_, xs, e, r⟩ := w.cel _ _ _ h1 h
      exact ⟨_, xs, rfl, sq_of e, r⟩
/-- a list or a tuple -/
inductive SeqOf (c : List Ob) : P → List P → Prop
  | l {p : P} {xs : List P} : LstOf c p xs → SeqOf c p xs
  | t (xs : List P) : SeqOf c (.tup xs) xs
theorem SeqOf.at {p : P} {ps : List P} {v : V} (h : SeqOf c p ps) (w : Wd K H as F c) (r : Rep K F as v p) : ∃ a xs, v = .ref a ∧ (SqL K H a xs ∨ SqT K H a xs) ∧ Reps K F as xs ps := by
  cases h with
  | l h => obtain ⟨a, xs, e, h1, h2⟩ := h.at w r; exact ⟨a, xs, e, .inl h1, h2⟩
  | t => cases r with | tup h1 h2 => exact ⟨_, _, rfl, .inr (ex_t w.sub h1), h2⟩

/-! ### built-ins -/
/-- a built-in of values: what its rule r says at such arguments -/
theorem ew_cb1 {r : List V → Hp → VK → Prop} (h : EW K te ρ c fun p c1 => ∀ v H1 as1 F1, Wd K H1 as1 F1 c1 → Rep K F1 as1 v p → ∀ Q' : VK, (∀ v2 H2 as2 F2 p2 c2, Q p2 c2 → Wd K H2 as2 F2 c2 → Xt H1 as1 F1 H2 as2 F2 → Rep K F2 as2 v2 p2 → Q' v2 H2) → r [v] H1 Q') : EW K (tCB r (tCons te tNil)) ρ c Q := fun σ H as F w e Q' k =>
  h σ H as F w e _ fun v H1 as1 F1 p c1 q w1 x1 r1 => q v H1 as1 F1 w1 r1 Q' fun v2 H2 as2 F2 p2 c2 q2 w2 x2 r2 => k v2 H2 as2 F2 p2 c2 q2 w2 (x1.trans x2) r2
theorem ew_cbI {r : List V → Hp → VK → Prop} {g : Int → Int → Prop} (hr : ∀ i H (Q : VK), (∀ j, g i j → Q (.int j) H) → r [.int i] H Q) (h : EW K te ρ c fun p c1 => ∃ i, p = .int i ∧ ∀ j, g i j → Q (.int j) c1) : EW K (tCB r (tCons te tNil)) ρ c Q :=
  ew_cb1 (h.mono fun p c1 ⟨i, ep, q⟩ v H1 as1 F1 w1 r1 Q' k => by
    subst ep; cases r1
    exact hr i H1 Q' fun j gj => k _ H1 as1 F1 _ c1 (q j gj) w1 Xt.refl (.int j))
theorem ew_abs (h : EW K te ρ c fun p c1 => ∃ i, p = .int i ∧ Q (.int (if i < 0 then -i else i)) c1) : EW K (tCB (fun xs H Q => ∃ i, xs = [V.int i] ∧ Q (.int (if i < 0 then -i else i)) H) (tCons te tNil)) ρ c Q :=
  ew_cbI (g := fun i j => j = if i < 0 then -i else i) (fun i H Q k => ⟨i, rfl, k _ rfl⟩) (h.mono fun p c1 ⟨i, ep, q⟩ => ⟨i, ep, fun j e => by rw [e]; exact q⟩)
theorem ew_int1 (h : EW K te ρ c fun p c1 => (∃ i, p = .int i ∧ Q (.int i) c1) ∨ ∃ b : Bool, p = .bl b ∧ Q (.int (if b then 1 else 0)) c1) : EW K (tCB (fun xs H Q => (∃ i, xs = [V.int i] ∧ Q (.int i) H) ∨ ∃ k : Bool, xs = [.bl k] ∧ Q (.int (if k then 1 else 0)) H) (tCons te tNil)) ρ c Q :=
  ew_cb1 (h.mono fun p c1 hp v H1 as1 F1 w1 r1 Q' k => by
    rcases hp with ⟨i, ep, q⟩ | ⟨b, ep, q⟩
    · subst ep; cases r1
      exact .inl ⟨i, rfl, k _ H1 as1 F1 _ c1 q w1 Xt.refl (.int _)⟩
    · subst ep; cases r1
      exact .inr ⟨b, rfl, k _ H1 as1 F1 _ c1 q w1 Xt.refl (.int _)⟩)
theorem ew_len (h : EW K te ρ c fun p c1 => ∃ xs, SeqOf c1 p xs ∧ Q (.int (xs.length : Int)) c1) : EW K (tCB (fun xs H Q => ∃ p ys, xs = [V.ref p] ∧ (SqL K H p ys ∨ SqT K H p ys) ∧ Q (.int ys.length) H) (tCons te tNil)) ρ c Q :=
  ew_cb1 (h.mono fun p c1 ⟨xs, hs, q⟩ v H1 as1 F1 w1 r1 Q' k => by
    obtain ⟨a, ys, rfl, h1, h2⟩ := hs.at w1 r1
    refine ⟨a, ys, rfl, h1, ?_⟩
    rw [h2.length]
    exact k _ H1 as1 F1 _ c1 q w1 Xt.refl (.int _))
theorem ew_listOf (h : EW K te ρ c fun p c1 => ∃ xs, SeqOf c1 p xs ∧ Q (.lst xs) c1) : EW K (tCB (fun xs H Q => ∃ p ys, xs = [V.ref p] ∧ (SqL K H p ys ∨ SqT K H p ys) ∧ ∀ l, H l = none → Q (.ref l) (upd H l (.lst ys))) (tCons te tNil)) ρ c Q :=
  ew_cb1 (h.mono fun p c1 ⟨xs, hs, q⟩ v H1 as1 F1 w1 r1 Q' k => by
    obtain ⟨a, ys, rfl, h1, h2⟩ := hs.at w1 r1
    refine ⟨a, ys, rfl, h1, fun l hl => ?_⟩
    obtain ⟨w2, x2⟩ := w1.alloc hl (.lst ys)
    exact k _ _ _ _ _ c1 q w2 x2 (.lst upd_same (h2.xt x2)))
/-- list(..) that is to change -/
theorem ew_listOfC (h : EW K te ρ c fun p c1 => ∃ xs, SeqOf c1 p xs ∧ Q (.cell c1.length) (c1 ++ [.lst xs])) : EW K (tCB (fun xs H Q => ∃ p ys, xs = [V.ref p] ∧ (SqL K H p ys ∨ SqT K H p ys) ∧ ∀ l, H l = none → Q (.ref l) (upd H l (.lst ys))) (tCons te tNil)) ρ c Q :=
  ew_cb1 (h.mono fun p c1 ⟨xs, hs, q⟩ v H1 as1 F1 w1 r1 Q' k => by
    obtain ⟨a, ys, rfl, h1, h2⟩ := hs.at w1 r1
    refine ⟨a, ys, rfl, h1, fun l hl => ?_⟩
    have hF : F1 l = none := fresh_back w1.sub hl
    obtain ⟨w2, x2⟩ := w1.allocCell hl (.lst ys) (.lst xs) ⟨hF, ys, upd_same, h2.mono (Ex.refl _) (List.prefix_append _ _)⟩
    exact k _ _ _ _ _ _ q w2 x2 (.cell (by rw [← w1.len, List.getElem?_append_right (Nat.le_refl _), Nat.sub_self]; rfl)))
theorem ew_tupleOf (h : EW K te ρ c fun p c1 => ∃ xs, SeqOf c1 p xs ∧ Q (.tup xs) c1) : EW K (tCB (fun xs H Q => ∃ p ys, xs = [V.ref p] ∧ ((SqL K H p ys ∧ ∀ l, H l = none → Q (.ref l) (upd H l (.tup ys))) ∨ (SqT K H p ys ∧ Q (.ref p) H))) (tCons te tNil)) ρ c Q :=
  ew_cb1 (h.mono fun p c1 ⟨xs, hs, q⟩ v H1 as1 F1 w1 r1 Q' k => by
    cases hs with
    | l hs =>
      obtain ⟨a, ys, rfl, h1, h2⟩ := hs.at w1 r1
      refine ⟨a, ys, rfl, .inl ⟨h1, fun l hl => ?_⟩⟩
      obtain ⟨w2, x2⟩ := w1.alloc hl (.tup ys)
      exact k _ _ _ _ _ c1 q w2 x2 (.tup (st_of upd_same) (h2.xt x2))
    | t =>
      have r1' := r1
      cases r1 with
      | tup h1 h2 => exact ⟨_, _, rfl, .inr ⟨ex_t w1.sub h1, k _ _ _ _ _ c1 q w1 Xt.refl r1'⟩⟩)
theorem ew_sum (h : EW K te ρ c fun p c1 => ∃ ns : List Int, LstOf c1 p (ns.map P.int) ∧ Q (.int ns.sum) c1) : EW K (tCB (rSum K) (tCons te tNil)) ρ c Q :=
  ew_cb1 (h.mono fun p c1 ⟨ns, hs, q⟩ v H1 as1 F1 w1 r1 Q' k => by
    obtain ⟨a, ys, rfl, h1, h2⟩ := hs.at w1 r1
    rw [h2.ints] at h1
    exact ⟨a, ns, rfl, h1, k _ H1 as1 F1 _ c1 q w1 Xt.refl (.int _)⟩)
theorem ew_maxL (h : EW K te ρ c fun p c1 => ∃ ns : List Int, LstOf c1 p (ns.map P.int) ∧ 0 < ns.length ∧ ∀ m, m ∈ ns → (∀ y, y ∈ ns → y ≤ m) → Q (.int m) c1) : EW K (tCB (rMax K) (tCons te tNil)) ρ c Q :=
  ew_cb1 (h.mono fun p c1 ⟨ns, hs, hn, q⟩ v H1 as1 F1 w1 r1 Q' k => by
    obtain ⟨a, ys, rfl, h1, h2⟩ := hs.at w1 r1
    rw [h2.ints] at h1
    exact ⟨a, ns, rfl, h1, hn, fun m hm hy => k _ H1 as1 F1 _ c1 (q m hm hy) w1 Xt.refl (.int _)⟩)
theorem ew_minL (h : EW K te ρ c fun p c1 => ∃ ns : List Int, LstOf c1 p (ns.map P.int) ∧ 0 < ns.length ∧ ∀ m, m ∈ ns → (∀ y, y ∈ ns → m ≤ y) → Q (.int m) c1) : EW K (tCB (rMin K) (tCons te tNil)) ρ c Q :=
  ew_cb1 (h.mono fun p c1 ⟨ns, hs, hn, q⟩ v H1 as1 F1 w1 r1 Q' k => by
    obtain ⟨a, ys, rfl, h1, h2⟩ := hs.at w1 r1
    rw [h2.ints] at h1
    exact ⟨a, ns, rfl, h1, hn, fun m hm hy => k _ H1 as1 F1 _ c1 (q m hm hy) w1 Xt.refl (.int _)⟩)
theorem ew_sorted (h : EW K te ρ c fun p c1 => ∃ ns : List Int, LstOf c1 p (ns.map P.int) ∧ ns.length < 64 ∧ ∀ ns' : List Int, ns'.Perm ns → ns'.Pairwise (· ≤ ·) → Q (.lst (ns'.map P.int)) c1) : EW K (tCB (rSorted K) (tCons te tNil)) ρ c Q :=
  ew_cb1 (h.mono fun p c1 ⟨ns, hs, hn, q⟩ v H1 as1 F1 w1 r1 Q' k => by
    obtain ⟨a, ys, rfl, h1, h2⟩ := hs.at w1 r1
    rw [h2.ints] at h1
    refine ⟨a, ns, rfl, h1, hn, fun ns' l hp hs' hl => ?_⟩
    obtain ⟨w2, x2⟩ := w1.alloc hl (.lst (ns'.map V.int))
    exact k _ _ _ _ _ c1 (q ns' hp hs') w2 x2 (.lst upd_same (Reps.of_ints ns')))
theorem ew_any (h : EW K te ρ c fun p c1 => ∃ bs : List Bool, LstOf c1 p (bs.map P.bl) ∧ Q (.bl (bs.any id)) c1) : EW K (tCB (rAny K) (tCons te tNil)) ρ c Q :=
  ew_cb1 (h.mono fun p c1 ⟨ns, hs, q⟩ v H1 as1 F1 w1 r1 Q' k => by
    obtain ⟨a, ys, rfl, h1, h2⟩ := hs.at w1 r1
    rw [h2.bls] at h1
    exact ⟨a, ns, rfl, h1, k _ H1 as1 F1 _ c1 q w1 Xt.refl (.bl _)⟩)
theorem ew_all (h : EW K te ρ c fun p c1 => ∃ bs : List Bool, LstOf c1 p (bs.map P.bl) ∧ Q (.bl (bs.all id)) c1) : EW K (tCB (rAll K) (tCons te tNil)) ρ c Q :=
  ew_cb1 (h.mono fun p c1 ⟨ns, hs, q⟩ v H1 as1 F1 w1 r1 Q' k => by
    obtain ⟨a, ys, rfl, h1, h2⟩ := hs.at w1 r1
    rw [h2.bls] at h1
    exact ⟨a, ns, rfl, h1, k _ H1 as1 F1 _ c1 q w1 Xt.refl (.bl _)⟩)
theorem ew_cb2 {r : List V → Hp → VK → Prop} (h : AW K tl ρ c fun ps c1 => ∀ vs H1 as1 F1, Wd K H1 as1 F1 c1 → Reps K F1 as1 vs ps → ∀ Q' : VK, (∀ v2 H2 as2 F2 p2 c2, Q p2 c2 → Wd K H2 as2 F2 c2 → Xt H1 as1 F1 H2 as2 F2 → Rep K F2 as2 v2 p2 → Q' v2 H2) → r vs H1 Q') : EW K (tCB r tl) ρ c Q := fun σ H as F w e Q' k =>
  h σ H as F w e _ fun v H1 as1 F1 p c1 q w1 x1 r1 => q v H1 as1 F1 w1 r1 Q' fun v2 H2 as2 F2 p2 c2 q2 w2 x2 r2 => k v2 H2 as2 F2 p2 c2 q2 w2 (x1.trans x2) r2
theorem AW.mono {Q1 Q2 : List P → List Ob → Prop} (h : AW K tl ρ c Q1) (i : ∀ p c', Q1 p c' → Q2 p c') : AW K tl ρ c Q2 := fun σ H as F w e Q' k => h σ H as F w e Q' fun v H' as' F' p c' q => k v H' as' F' p c' (i p c' q)
theorem ew_max2 (h : AW K tl ρ c fun ps c1 => ∃ i j : Int, ps = [.int i, .int j] ∧ Q (.int (if j > i then j else i)) c1) : EW K (tCB (fun xs H Q => ∃ i j, xs = [V.int i, V.int j] ∧ Q (.int (if j > i then j else i)) H) tl) ρ c Q :=
  ew_cb2 (h.mono fun ps c1 ⟨i, j, ep, q⟩ vs H1 as1 F1 w1 r1 Q' k => by
    subst ep
    have e := Reps.ints (ns := [i, j]) r1
    subst e
    exact ⟨i, j, rfl, k _ H1 as1 F1 _ c1 q w1 Xt.refl (.int _)⟩)
theorem ew_min2 (h : AW K tl ρ c fun ps c1 => ∃ i j : Int, ps = [.int i, .int j] ∧ Q (.int (if j < i then j else i)) c1) : EW K (tCB (fun xs H Q => ∃ i j, xs = [V.int i, V.int j] ∧ Q (.int (if j < i then j else i)) H) tl) ρ c Q :=
  ew_cb2 (h.mono fun ps c1 ⟨i, j, ep, q⟩ vs H1 as1 F1 w1 r1 Q' k => by
    subst ep
    have e := Reps.ints (ns := [i, j]) r1
    subst e
    exact ⟨i, j, rfl, k _ H1 as1 F1 _ c1 q w1 Xt.refl (.int _)⟩)
theorem nuLt_int (i j : Int) : nuLt (.int i) (.int j) = some (decide (i < j)) := by rfl
theorem ew_max3 (h : AW K tl ρ c fun ps c1 => ∃ i j l : Int, ps = [.int i, .int j, .int l] ∧ Q (.int (max (max i j) l)) c1) : EW K (tCB (rNuC3 nuMax3) tl) ρ c Q :=
  ew_cb2 (h.mono fun ps c1 ⟨i, j, l, ep, q⟩ vs H1 as1 F1 w1 r1 Q' k => by
    subst ep
    have e := Reps.ints (ns := [i, j, l]) r1
    subst e
    have e1 : ∀ a b : Int, nuMax2 (.int a) (.int b) = some (.int (max a b)) := fun a b => by
      unfold nuMax2
      rw [nuLt_int]
      by_cases hab : a < b
      · rw [decide_eq_true hab, Int.max_eq_right (Int.le_of_lt hab)]; rfl
      · rw [decide_eq_false hab, Int.max_eq_left (Int.not_lt.mp hab)]; rfl
    refine ⟨_, _, _, _, rfl, ?_, k _ H1 as1 F1 _ c1 q w1 Xt.refl (.int _)⟩
    unfold nuMax3
    rw [e1]
    exact e1 _ _)
/-- range(..) as a value -/
theorem ew_rng2 (h : AW K tl ρ c fun ps c1 => ∃ i j : Int, ps = [.int i, .int j] ∧ Q (.rng i j) c1) : EW K (tCB (fun vs H Q => ∃ i j, vs = [V.int i, V.int j] ∧ ∀ p, H p = none → Q (.ref p) (upd H p (.rng i j))) tl) ρ c Q :=
  ew_cb2 (h.mono fun ps c1 ⟨i, j, ep, q⟩ vs H1 as1 F1 w1 r1 Q' k => by
    subst ep
    have e := Reps.ints (ns := [i, j]) r1
    subst e
    refine ⟨i, j, rfl, fun l hl => ?_⟩
    obtain ⟨w2, x2⟩ := w1.alloc hl (.rng i j)
    exact k _ _ _ _ _ c1 q w2 x2 (.rng upd_same))
/-- isinstance(x, T) of a built-in type -/
inductive TyP : P → String → Prop
  | non : TyP .non "NoneType" | bl (b : Bool) : TyP (.bl b) "bool" | int (i : Int) : TyP (.int i) "int" | str (s : Str) : TyP (.str s) "str"
  | tup (xs : List P) : TyP (.tup xs) "tuple" | lst (xs : List P) : TyP (.lst xs) "list"
theorem TyP.x {p : P} {t : String} {v : V} (h : TyP p t) (w : Wd K H as F c) (r : Rep K F as v p) : TyX K H v (.type t) := by
  cases h with
  | non => cases r; exact .base .non
  | bl b => cases r; exact .base (.bl b)
  | int b => cases r; exact .base (.int b)
  | str b => cases r; exact .base (.str b)
  | lst xs => cases r with | lst h1 h2 => exact .base (.lst (w.sub _ _ h1))
  | tup xs =>
    cases r with
    | tup h1 h2 =>
      rcases h1 with (h1 | ⟨o, h1⟩) | ⟨o, its, n, h1, h3, _⟩
      · exact .base (.tup (w.sub _ _ h1))
      · exact .fTuple (w.sub _ _ h1)
      · exact .kTuple h1 h3
theorem ew_isi (h : AW K tl ρ c fun ps c1 => ∃ p t u b, ps = [p, .ty u] ∧ TyP p t ∧ kitB t u = some b ∧ Q (.bl b) c1) : EW K (tCB (rIsi K) tl) ρ c Q :=
  ew_cb2 (h.mono fun ps c1 ⟨p, t, u, b, ep, hp, hk, q⟩ vs H1 as1 F1 w1 r1 Q' k => by
    subst ep
    cases r1 with
    | cons r1 r2 =>
      cases r2 with
      | cons r2 r3 =>
        cases r3; cases r2
        exact ⟨_, _, _, _, b, rfl, .ty u, hp.x w1 r1, kit_ty hk, k _ H1 as1 F1 _ c1 q w1 Xt.refl (.bl _)⟩)
theorem ew_ty {n : String} (q : Q (.ty n) c) : EW K (tC (.ty n)) ρ c Q := fun σ H as F w e Q' k => k _ H as F _ c q w Xt.refl (.ty n)

/-! ### subscripts, in -/
theorem Reps.atI {xs : List V} {ps : List P} {i : Int} {p : P} (r : Reps K F as xs ps) (h : atI ps i = some p) : ∃ v, L2.atI xs i = some v ∧ Rep K F as v p := by
  unfold L2.atI at h ⊢
  rw [r.length]
  cases e : ixN ps.length i with
  | none => rw [e] at h; cases h
  | some j =>
    rw [e] at h
    obtain ⟨v, e1, r1⟩ := r.get (show ps[j]? = some p from h)
    exact ⟨v, e1, r1⟩
theorem ew_ixL (h : EW K ta ρ c fun p c1 => EW K tb ρ c1 fun q c2 => ∃ xs i y, LstOf c2 p xs ∧ q = .int i ∧ atI xs i = some y ∧ Q y c2) : EW K (tOp (rIxL K) ta tb) ρ c Q := fun σ H as F w e Q' k =>
  h σ H as F w e _ fun v H1 as1 F1 p c1 h2 w1 x1 r1 => by
    refine h2 σ H1 as1 F1 w1 (e.xt x1) _ fun v2 H2 as2 F2 p2 c2 ⟨xs, i, y, hl, eq, hy, q⟩ w2 x2 r2 => ?_
    subst eq; cases r2
    obtain ⟨a, ys, rfl, h1, h3⟩ := hl.at w2 (r1.xt x2)
    obtain ⟨z, e1, r3⟩ := h3.atI hy
    exact ⟨a, ys, i, z, rfl, rfl, h1, e1, k _ H2 as2 F2 _ c2 q w2 (x1.trans x2) r3⟩
theorem ew_ixT (h : EW K ta ρ c fun p c1 => EW K tb ρ c1 fun q c2 => ∃ xs i y, p = .tup xs ∧ q = .int i ∧ atI xs i = some y ∧ Q y c2) : EW K (tOp (rIxT K) ta tb) ρ c Q := fun σ H as F w e Q' k =>
  h σ H as F w e _ fun v H1 as1 F1 p c1 h2 w1 x1 r1 => by
    refine h2 σ H1 as1 F1 w1 (e.xt x1) _ fun v2 H2 as2 F2 p2 c2 ⟨xs, i, y, hl, eq, hy, q⟩ w2 x2 r2 => ?_
    subst eq; cases r2; subst hl
    cases r1.xt x2 with
    | tup h1 h3 =>
      obtain ⟨z, e1, r3⟩ := h3.atI hy
      exact ⟨_, _, i, z, rfl, rfl, ex_t w2.sub h1, e1, k _ H2 as2 F2 _ c2 q w2 (x1.trans x2) r3⟩
theorem gw_setL {to ti : TE} {p : P} {Q : PR → List Ob → Prop} (h : EW K to ρ c fun o c1 => ∃ n, o = .cell n ∧ EW K ti ρ c1 fun q c2 => ∃ k j xs, q = .int k ∧ c2[n]? = some (.lst xs) ∧ ixN xs.length k = some j ∧ Q ρ (c2.set n (.lst (xs.set j p)))) : GW K (gSub to ti rSetL) p ρ c Q := fun v σ H as F w e r Q' kk =>
  h σ H as F w e _ fun vo H1 as1 F1 po c1 ⟨n, eo, h2⟩ w1 x1 r1 => by
    subst eo
    cases r1 with
    | @cell _ a hn =>
    refine h2 σ H1 as1 F1 w1 (e.xt x1) _ fun v2 H2 as2 F2 p2 c2 ⟨k, j, xs, eq, hc, hj, q⟩ w2 x2 r2 => ?_
    subst eq; cases r2
    have hn2 := pre_get x2.pre hn
    obtain ⟨hF, ys, hH, rr⟩ := w2.cel n a _ hn2 hc
    obtain ⟨w3, x3⟩ := w2.put (ob := .lst (xs.set j p)) (ob0 := .dead) hn2 hF (.lst (ys.set j v)) ⟨hF, _, upd_same, rr.set ((r.xt x1).xt x2) j⟩
    exact ⟨a, ys, k, j, rfl, rfl, hH, by rw [rr.length]; exact hj, kk σ _ as2 F2 ρ _ q w3 ((x1.trans x2).trans x3) (((e.xt x1).xt x2).xt x3)⟩
theorem sc_inV {v y : V} {p q : P} (r : Rep K F as v p) (s : Rep K F as y q) : True := trivial
theorem ints_flat : ∀ ns : List Int, (ns.map V.int).all flatV = true
  | [] => rfl
  | n :: ns => by rw [List.map_cons, List.all_cons, ints_flat ns]; rfl
theorem ints_inV (i : Int) (ns : List Int) : inV (.int i) (ns.map V.int) = decide (i ∈ ns) := by
  unfold inV
  induction ns with
  | nil => rfl
  | cons n ns ih =>
    rw [List.map_cons, List.any_cons, ih]
    have e : eqV (.int n) (.int i) = decide (n = i) := rfl
    rw [e]
    by_cases h : n = i
    · subst h; simp
    · have : ¬ i = n := fun z => h z.symm
      simp [h, this]
theorem ew_in {neg : Bool} (h : EW K ta ρ c fun p c1 => EW K tb ρ c1 fun q c2 => ∃ (i : Int) (ns : List Int), p = .int i ∧ SeqOf c2 q (ns.map P.int) ∧ Q (.bl (if neg then !decide (i ∈ ns) else decide (i ∈ ns))) c2) : EW K (tOp (rIn K neg) ta tb) ρ c Q := fun σ H as F w e Q' k =>
  h σ H as F w e _ fun v H1 as1 F1 p c1 h2 w1 x1 r1 => by
    refine h2 σ H1 as1 F1 w1 (e.xt x1) _ fun v2 H2 as2 F2 p2 c2 ⟨i, ns, ep, hs, q⟩ w2 x2 r2 => ?_
    subst ep; cases r1
    obtain ⟨a, ys, rfl, h1, h3⟩ := hs.at w2 r2
    rw [h3.ints] at h1
    refine ⟨a, _, rfl, h1, rfl, ints_flat ns, ?_⟩
    rw [ints_inV]
    exact k _ H2 as2 F2 _ c2 q w2 (x1.trans x2) (.bl _)
theorem ew_isB (h : EW K ta ρ c fun p c1 => ∃ b, p = .bl b ∧ EW K tb ρ c1 fun q c2 => ∃ d, q = .bl d ∧ Q (.bl (decide (b = d))) c2) : EW K (tOp rIsB ta tb) ρ c Q := fun σ H as F w e Q' k =>
  h σ H as F w e _ fun v H1 as1 F1 p c1 ⟨b, ep, h2⟩ w1 x1 r1 => by
    subst ep; cases r1
    refine h2 σ H1 as1 F1 w1 (e.xt x1) _ fun v2 H2 as2 F2 p2 c2 ⟨d, ed, q⟩ w2 x2 r2 => ?_
    subst ed; cases r2
    exact ⟨b, d, rfl, rfl, k _ H2 as2 F2 _ c2 q w2 (x1.trans x2) (.bl _)⟩
theorem ew_notB (h : EW K ta ρ c fun p c1 => ∃ b, p = .bl b ∧ EW K tb ρ c1 fun q c2 => ∃ d, q = .bl d ∧ Q (.bl (!decide (b = d))) c2) : EW K (tOp rNotB ta tb) ρ c Q := fun σ H as F w e Q' k =>
  h σ H as F w e _ fun v H1 as1 F1 p c1 ⟨b, ep, h2⟩ w1 x1 r1 => by
    subst ep; cases r1
    refine h2 σ H1 as1 F1 w1 (e.xt x1) _ fun v2 H2 as2 F2 p2 c2 ⟨d, ed, q⟩ w2 x2 r2 => ?_
    subst ed; cases r2
    exact ⟨b, d, rfl, rfl, k _ H2 as2 F2 _ c2 q w2 (x1.trans x2) (.bl _)⟩
theorem ew_isN (h : EW K ta ρ c fun p c1 => ∃ x, p.sc = some x ∧ Q (.bl (decide (x = .non))) c1) : EW K (tIsN ta) ρ c Q := fun σ H as F w e Q' k =>
  h σ H as F w e _ fun v H1 as1 F1 p c1 ⟨x, ex, q⟩ w1 x1 r1 => by
    show Q' _ H1
    rw [r1.sc ex]
    exact k _ H1 as1 F1 _ c1 q w1 x1 (.bl _)

/-! ### == of trees -/
mutual
def P.toD : P → PyData
  | .non => .none
  | .bl b => .bool b
  | .int i => .int i
  | .str s => .str s
  | .tup xs => .tuple (toDs xs)
  | .lst xs => .list (toDs xs)
  | .klst xs => .list (toDs xs)
  | _ => .none
def toDs : List P → List PyData
  | [] => []
  | x :: xs => x.toD :: toDs xs
end
mutual
def P.data : P → Bool
  | .tup xs => datas xs
  | .lst xs => datas xs
  | .klst xs => datas xs
  | .rng _ _ => false
  | .cell _ => false
  | .ty _ => false
  | _ => true
def datas : List P → Bool
  | [] => true
  | x :: xs => x.data && datas xs
end
mutual
theorem Rep.dp (m : Ex F H) : ∀ {p : P} {v : V}, Rep K F as v p → p.data = true → Dp K H v p.toD
  | .non, _, h, _ => by cases h; exact .non
  | .bl b, _, h, _ => by cases h; exact .bl b
  | .int i, _, h, _ => by cases h; exact .int i
  | .str s, _, h, _ => by cases h; exact .str s
  | .tup ps, _, h, b => by cases h with | tup h1 h2 => exact .tup (ex_t m h1) (Reps.dp m h2 b)
  | .lst ps, _, h, b => by cases h with | lst h1 h2 => exact .lst (sq_of (m _ _ h1)) (Reps.dp m h2 b)
  | .klst ps, _, h, b => by cases h with | klst h1 h2 => exact .lst (ex_l m h1) (Reps.dp m h2 b)
  | .rng _ _, _, _, b => by cases b
  | .cell _, _, _, b => by cases b
  | .ty _, _, _, b => by cases b
theorem Reps.dp (m : Ex F H) : ∀ {ps : List P} {vs : List V}, Reps K F as vs ps → datas ps = true → DpAll K H vs (toDs ps)
  | [], _, h, _ => by cases h; exact .nil
  | p :: ps, _, h, b => by
    cases h with
    | cons h1 h2 =>
      have b' : (p.data && datas ps) = true := b
      rw [Bool.and_eq_true] at b'
      exact .cons (Rep.dp m h1 b'.1) (Reps.dp m h2 b'.2)
end
theorem ew_eqD (h : EW K ta ρ c fun p c1 => EW K tb ρ c1 fun q c2 => (p.data = true ∧ q.data = true ∧ SeqAt.shaped p.toD = true ∧ SeqAt.shaped q.toD = true) ∧ Q (.bl (PyData.eqv p.toD q.toD)) c2) : EW K (tOp (rEqD K) ta tb) ρ c Q := fun σ H as F w e Q' k =>
  h σ H as F w e _ fun v H1 as1 F1 p c1 h2 w1 x1 r1 => by
    refine h2 σ H1 as1 F1 w1 (e.xt x1) _ fun v2 H2 as2 F2 p2 c2 ⟨⟨d1, d2, s1, s2⟩, q⟩ w2 x2 r2 => ?_
    exact ⟨_, _, (r1.xt x2).dp w2.sub d1, r2.dp w2.sub d2, s1, s2, k _ H2 as2 F2 _ c2 q w2 (x1.trans x2) (.bl _)⟩
theorem ew_neD (h : EW K ta ρ c fun p c1 => EW K tb ρ c1 fun q c2 => (p.data = true ∧ q.data = true ∧ SeqAt.shaped p.toD = true ∧ SeqAt.shaped q.toD = true) ∧ Q (.bl (!PyData.eqv p.toD q.toD)) c2) : EW K (tOp (rNeD K) ta tb) ρ c Q := fun σ H as F w e Q' k =>
  h σ H as F w e _ fun v H1 as1 F1 p c1 h2 w1 x1 r1 => by
    refine h2 σ H1 as1 F1 w1 (e.xt x1) _ fun v2 H2 as2 F2 p2 c2 ⟨⟨d1, d2, s1, s2⟩, q⟩ w2 x2 r2 => ?_
    exact ⟨_, _, (r1.xt x2).dp w2.sub d1, r2.dp w2.sub d2, s1, s2, k _ H2 as2 F2 _ c2 q w2 (x1.trans x2) (.bl _)⟩
end
end PL

set_option Elab.async false
set_option linter.all false
set_option maxRecDepth 100000
set_option maxHeartbeats 2000000
namespace PL
open PySem PySem.Spec PyProof.Rows L2 Evl He
/-! ### the head's facts, and a Bool of one's own -/
abbrev AlE : Type := Bool × List FnW
def obsE (fa : List Fa) (fn : List DefD) (ex : PySem.W.Frag → Bool) (K : PySem.W.Frag) : AlE := ((fa.all fun f => f.ok K) && (fn.all fun d => d.ok K) && ex K, fn.map fun d => fnW K d.at_)
def SaysE (fa : List Fa) (fn : List DefD) (ex : PySem.W.Frag → Bool) (K : PySem.W.Frag) : Prop := obsE fa fn ex K = valD fn
def obsEG (n : Nat) (fa : List Fa) (fn : List DefD) (ex : PySem.W.Frag → Bool) (g : Addr → Option Obj) : AlE := obsE fa fn ex (frG g (asD g n))
def hookE (n : Nat) (fa : List Fa) (fn : List DefD) (ex : PySem.W.Frag → Bool) : PySem.W.Hook where
  α := AlE
  obs := fun s => obsEG n fa fn ex s.heap.get?
  val := fun _ => valD fn
  says := fun _ h => ∃ K : PySem.W.Frag, K.In h ∧ SaysE fa fn ex K
  of := fun _ _ e => ⟨_, frG_in, e⟩
  keeps := fun _ _ _ ⟨K, hK, c⟩ k => ⟨K, PySem.W.Frag.In.keeps hK k, c⟩
theorem obsEG_eq {n : Nat} {fa : List Fa} {fn : List DefD} {ex : PySem.W.Frag → Bool} {g : Addr → Option Obj} {s : Shared} (h : ∀ a, g a = s.heap.get? a) : obsEG n fa fn ex g = (hookE n fa fn ex).obs s := by
  have e : g = s.heap.get? := funext h
  rw [e] <;> rfl
theorem SaysE.d {fa : List Fa} {fn : List DefD} {ex : PySem.W.Frag → Bool} {K : PySem.W.Frag} (c : SaysE fa fn ex K) : SaysD fa fn K ∧ ex K = true := by
  have h1 : ((fa.all fun f => f.ok K) && (fn.all fun d => d.ok K) && ex K) = true := congrArg (fun z : AlE => z.1) c
  have h2 : fn.map (fun d => fnW K d.at_) = fn.map DefD.val := congrArg (fun z : AlE => z.2) c
  obtain ⟨h3, h4⟩ := ba h1
  exact ⟨Prod.ext h3 h2, h4⟩
/-- a def of the top -/
structure DefAt (K : PySem.W.Frag) (mg : Str → Option Value) (x : Str) (st : Stmt) : Prop where
  ex : ∃ f fd, FunD K x x (defArgs st) (defBody st) (defScope st) [] [] f fd ∧ mg x = some (.ref f)
/-- a def that may be called by its name, with its promise over values -/
structure Cl (P₀ : Program) (w : World) (K : PySem.W.Frag) (mg : Str → Option Value) (base : Heap) (k : Nat) (x : Str) (S : PSp) : Prop where
  ex : ∃ (f : Addr) (fd : FuncData) (ps : List Str), FnOk P₀ w K mg base CX0 k f fd ps (SpOf K S) ∧ mg x = some (.ref f) ∧ PySem.W.keepIn K (.ref f) = true ∧ Binds K fd ps []
theorem pe_cl {P₀ : Program} {w : World} {K : PySem.W.Frag} {mg : Str → Option Value} {base : Heap} {X : Cx} {k j : Nat} {x : Str} {S : PSp} {p pos : Pos} {e : Expr} {es : List Expr} {t : TA} (c : Cl P₀ w K mg base k x S) (hX : X.prog = P₀ ∧ X.w = w ∧ X.K = K ∧ X.mg = mg ∧ X.base = base) (hr : Room j X.A) (hk : k ≤ j) (hg : Gl X x) (ha : PA X (e :: es) t)
    (hdb : (x == ("__debug__" : Str)) = false := by decide) (he : starEach (e :: es) X.env = (false, eval e X.env) :: starEach es X.env := by rfl) (hpl : (backTo pos (starEach es X.env)).any (·.1) = false := by rfl) :
    PE X (.Call (.Name x p) (e :: es) [] pos) (tCall (SpOf K S) [] E0 t) := by
  obtain ⟨rfl, rfl, rfl, rfl, rfl⟩ := hX
  obtain ⟨f, fd, ps, F, hm, kp, b⟩ := c.ex
  exact pe_call F (hr.mono hk) hg hm kp b .nil pass0 ha hdb he hpl
theorem Cl.mono {P₀ : Program} {w : World} {K : PySem.W.Frag} {mg : Str → Option Value} {base : Heap} {j k : Nat} {x : Str} {S : PSp} (c : Cl P₀ w K mg base j x S) (h : j ≤ k) : Cl P₀ w K mg base k x S := by
  obtain ⟨f, fd, ps, F, r⟩ := c.ex
  exact ⟨f, fd, ps, F.mono h, r⟩
/-- a promise that follows from this one -/
theorem Cl.imp {P₀ : Program} {w : World} {K : PySem.W.Frag} {mg : Str → Option Value} {base : Heap} {k : Nat} {x : Str} {S S' : PSp} (c : Cl P₀ w K mg base k x S) (h : ∀ qs cs Q, S' qs cs Q → S qs cs Q) : Cl P₀ w K mg base k x S' := by
  obtain ⟨f, fd, ps, F, r⟩ := c.ex
  exact ⟨f, fd, ps, F.imp fun vs H Q E ⟨as, Fh, cs, qs, Qp, w, r, s, k⟩ => ⟨as, Fh, cs, qs, Qp, w, r, h _ _ _ s, k⟩, r⟩
theorem pfnF {K : PySem.W.Frag} {P₀ : Program} {w : World} {mg : Str → Option Value} {base : Heap} {x : Str} {st : Stmt} {N ps : List Str} {k : Nat} {S : PSp} {f : Addr} {fd : FuncData} (F : FunD K x x (defArgs st) (defBody st) (defScope st) [] [] f fd) (sc : FnScope N ps (defScope st))
    (hl : ∀ qs c Q, S qs c Q → qs.length = ps.length)
    (body : ∀ (f : Addr) (cdv : Value) (A : Around) (outer : List PySem.Env) (s : Shared) (H : Hp) (E : XK), Room k (A.deeper (envOfC x (defScope st) s.heap.objs.size f cdv)) →
      ∃ t, PSs (cxOf CX0 P₀ w K mg base N x (defScope st) f cdv A outer s H E).nox (defBody st) t ∧ ∀ qs c Q, S qs c Q → (∀ o ∈ c, Ob.bel c.length o = true) → SW K t (startP N qs) c { nx := fun _ c' => RtOk c Q .non c', rt := RtOk c Q }) :
    FnOk P₀ w K mg base CX0 (k + 1) f fd ps (SpOf K S) := by
  refine F.ok sc (fun vs H Q E h => ?_) (fun cdv A outer s H vs Q E hr h => ?_)
  · obtain ⟨as, F, c, qs, Qp, w, r, hs, _⟩ := h
    rw [r.length]; exact hl qs c Qp hs
  · obtain ⟨as, F, c, qs, Qp, w, r, hs, kk⟩ := h
    obtain ⟨t, hp, hw⟩ := body f cdv A outer s H E hr
    refine ⟨t, hp.nox, hw qs c Qp hs w.bel (L2.start N vs) H as F w (env_start r) _ ⟨fun σ' H' as' F' ρ' c' q w' x' e' => ?_, fun v H' as' F' p c' q w' x' r' => ?_, fun _ _ _ _ _ _ q => q.elim, fun _ _ _ _ _ _ q => q.elim⟩⟩
    · obtain ⟨as2, c2, q2, w2, x2, r2⟩ := reach (S := S) (qs := qs) (vs := vs) w q w' x' (.non)
      exact kk _ H' as2 F' _ c2 q2 w2 x2 r2
    · obtain ⟨as2, c2, q2, w2, x2, r2⟩ := reach (S := S) (qs := qs) (vs := vs) w q w' x' r'
      exact kk v H' as2 F' p c2 q2 w2 x2 r2
theorem pfn {K : PySem.W.Frag} {P₀ : Program} {w : World} {mg : Str → Option Value} {base : Heap} {x : Str} {st : Stmt} {N ps : List Str} {k : Nat} {S : PSp} (Fn : DefAt K mg x st) (sc : FnScope N ps (defScope st))
    (hb : ∀ (kV doc pm : Value) (an : Option Addr) (cdv ct : Value) (us : List Value), us.length = ps.length → bindArgs (PySem.W.fnOf x x (defArgs st) (defBody st) (defScope st) .none kV doc pm an cdv ct) ⟨us, []⟩ = pure (ps.zip us))
    (hl : ∀ qs c Q, S qs c Q → qs.length = ps.length)
    (body : ∀ (f : Addr) (cdv : Value) (A : Around) (outer : List PySem.Env) (s : Shared) (H : Hp) (E : XK), Room k (A.deeper (envOfC x (defScope st) s.heap.objs.size f cdv)) →
      ∃ t, PSs (cxOf CX0 P₀ w K mg base N x (defScope st) f cdv A outer s H E).nox (defBody st) t ∧ ∀ qs c Q, S qs c Q → (∀ o ∈ c, Ob.bel c.length o = true) → SW K t (startP N qs) c { nx := fun _ c' => RtOk c Q .non c', rt := RtOk c Q }) :
    Cl P₀ w K mg base (k + 1) x S := by
  obtain ⟨f, fd, F, hm⟩ := Fn.ex
  exact ⟨f, fd, ps, pfnF F sc hl body, hm, F.kp, F.bindsN hb⟩
/-- a promise that nothing asks -/
theorem cl_none {K : PySem.W.Frag} {P₀ : Program} {w : World} {mg : Str → Option Value} {base : Heap} {x : Str} {st : Stmt} {ps : List Str} {k : Nat} (D : DefAt K mg x st)
    (hb : ∀ (kV doc pm : Value) (an : Option Addr) (cdv ct : Value) (us : List Value), us.length = ps.length → bindArgs (PySem.W.fnOf x x (defArgs st) (defBody st) (defScope st) .none kV doc pm an cdv ct) ⟨us, []⟩ = pure (ps.zip us)) : Cl P₀ w K mg base k x (fun _ _ _ => False) := by
  obtain ⟨f, fd, F, hm⟩ := D.ex
  have no : ∀ vs H Q E, ¬ SpOf K (fun _ _ _ => False) vs H Q E := fun vs H Q E ⟨_, _, _, _, _, _, _, h, _⟩ => h
  exact ⟨f, fd, ps, ⟨fun vs H Q E h => absurd h (no vs H Q E), fun A outer s H args us vs Q E _ _ _ _ h => absurd h (no vs H Q E)⟩, hm, F.kp, F.bindsN hb⟩
/-- what a law's own def promises -/
def S_law : PSp := fun ps c Q => ∃ ns : List Int, ps = [.klst (ns.map P.int)] ∧ ns.length ≤ 63 ∧ Q (.bl true) c
theorem spec_law {K : PySem.W.Frag} {ns : List Int} {a : Addr} {H : Hp} (hl : ns.length ≤ 63) (hS : SqL K H a (ns.map V.int)) : SpOf K S_law [.ref a] H (fun v _ => v = .bl true) fun _ _ _ => False :=
  ⟨[], H, [], [.klst (ns.map P.int)], fun p _ => p = .bl true, ⟨Ex.refl H, rfl, .nil, fun n a o h => by simp at h⟩, .cons (.klst hS (Reps.of_ints ns)) .nil, ⟨ns, rfl, hl, rfl⟩, fun v H' as' F' p c' e _ _ r => by
    subst e; cases r; rfl⟩
end PL

set_option Elab.async false
set_option linter.all false
set_option maxRecDepth 100000
set_option maxHeartbeats 2000000
namespace PL
open PySem PySem.Spec PyProof.Rows L2 Evl

/-! ### rules of the hand layer's own kind -/
section
variable {X : Cx}
theorem pe_gint {x : Str} {i : Int} {pos : Pos} (h : ∃ t, X.mg x = some (.int i t)) (hg : Gl X x) (hd : (x == ("__debug__" : Str)) = false := by decide) : PE X (.Name x pos) (tC (.int i)) := by
  obtain ⟨t, ht⟩ := h
  exact pe_glob hg ht ⟨t, rfl⟩ hd
theorem pe_gref {x : Str} {a : Addr} {pos : Pos} (h : X.mg x = some (.ref a)) (hg : Gl X x) (hd : (x == ("__debug__" : Str)) = false := by decide) : PE X (.Name x pos) (tC (.ref a)) := pe_glob hg h rfl hd
theorem pe_gstr {x z : Str} {pos : Pos} (h : ∃ t, X.mg x = some (.str z t)) (hg : Gl X x) (hd : (x == ("__debug__" : Str)) = false := by decide) : PE X (.Name x pos) (tC (.str z)) := by
  obtain ⟨t, ht⟩ := h
  exact pe_glob hg ht ⟨t, rfl⟩ hd
def CPowW (i j : Int) : Prop := 0 ≤ j ∧ (Builtin.Int.intBits i : Int) * j ≤ 2 ^ 27
theorem op_powW : OpR X (binaryOp .Pow) (rI CPowW fun i j => .int (i ^ j.toNat)) := opI fun _ _ _ _ _ _ _ hc q => pow_int hc.1 hc.2 q
/-- a range that was made before, walked -/
def iRngV (te : TE) : TI := fun σ H R => te σ H fun v H1 => ∃ a lo hi, v = .ref a ∧ H1 a = some (.rng lo hi) ∧ (-(2 ^ 62) ≤ lo ∧ lo < 2 ^ 62 ∧ -(2 ^ 62) ≤ hi ∧ hi < 2 ^ 62) ∧ R (Itr lo (hi - lo).toNat) H1
theorem pi_rngV {tg e : Expr} {te : TE} (he : PE X e te) : PI X tg e (iRngV te) := by
  refine ⟨fun pins s σ H R I h => ?_⟩
  refine thn (he.run pins s σ H _ I h) fun v s1 ⟨x, H1, I1, r1, q1⟩ => ?_
  obtain ⟨a, lo, hi, e, hA, ⟨h1, h2, h3, h4⟩, q⟩ := q1
  subst e
  cases r1
  obtain ⟨t, u, v, ho⟩ := I1.hok a _ hA
  refine wpAny_pyIter_range ho (small_one h1 h2 h3 h4) ?_
  refine ⟨s1.heap.objs.size, [s1.heap.objs.size], _, _, H1, rfl, I1.kept (t' := _) fun b o e => Heap.get?_push_of_some _ e, turn_range _ lo (hi - lo).toNat, ?_, fun b hb => ?_, q⟩
  · have e1 : lo + ((0 : Nat) : Int) * 1 = lo := by simp
    have e2 : (((hi - lo).toNat : Nat) : Int) - ((0 : Nat) : Int) = Builtin.Range.rangeSize lo hi 1 := by rw [rangeSize_one]; split <;> omega
    show IsRangeIter _ _ (lo + ((0 : Nat) : Int) * 1) ((((hi - lo).toNat : Nat) : Int) - ((0 : Nat) : Int)) 1
    rw [e1, e2]
    exact Heap.get?_push_size _ rfl
  · have e : b = s1.heap.objs.size := by simpa using hb
    subst e
    exact I1.fpOk (Nat.le_refl _) (I1.hok.fresh (Nat.le_refl _))
end

section
variable {K : PySem.W.Frag} {F H : Hp} {as : List Addr} {c : List Ob} {ρ : PR} {Q : PQ} {D : PEnds} {te ta tb : TE} {tt t1 t2 : TT} {tl : TA}
/-! ### tests and values that change nothing: one way on -/
theorem ew_and' {x y : Bool} (ha : EW K ta ρ c fun p c' => p = .bl x ∧ c' = c) (hb : x = true → EW K tb ρ c fun p c' => p = .bl y ∧ c' = c) (q : Q (.bl (x && y)) c) : EW K (tAndV ta tb) ρ c Q :=
  ew_andV (ha.mono fun p c' ⟨e1, e2⟩ => ⟨x, e1, fun hx => by rw [e2]; exact (hb hx).mono fun p2 c2 ⟨e3, e4⟩ => by rw [e3, e4]; rw [hx] at q; exact q, fun hx => by rw [e2]; rw [hx] at q; exact q⟩)
theorem ew_or' {x y : Bool} (ha : EW K ta ρ c fun p c' => p = .bl x ∧ c' = c) (hb : x = false → EW K tb ρ c fun p c' => p = .bl y ∧ c' = c) (q : Q (.bl (x || y)) c) : EW K (tOrV ta tb) ρ c Q :=
  ew_orV (ha.mono fun p c' ⟨e1, e2⟩ => ⟨x, e1, fun hx => by rw [e2]; rw [hx] at q; exact q, fun hx => by rw [e2]; exact (hb hx).mono fun p2 c2 ⟨e3, e4⟩ => by rw [e3, e4]; rw [hx] at q; exact q⟩)
theorem tw_and' {x y : Bool} {Q : Bool → List Ob → Prop} (ha : TW K t1 ρ c fun b c' => b = x ∧ c' = c) (hb : x = true → TW K t2 ρ c fun b c' => b = y ∧ c' = c) (q : Q (x && y) c) : TW K (tAnd t1 t2) ρ c Q :=
  tw_and fun σ H as F w e Q' k => ha σ H as F w e Q' fun b H' as' F' c' ⟨e1, e2⟩ w' x' => by
    subst e1 e2
    exact k b H' as' F' c' ⟨fun hb' => fun σ2 H2 as2 F2 w2 e2 Q2 k2 => hb hb' σ2 H2 as2 F2 w2 e2 Q2 fun b3 H3 as3 F3 c3 ⟨e3, e4⟩ w3 x3 => by
      subst e3 e4 hb'
      exact k2 b3 H3 as3 F3 c3 q w3 x3, fun hb' => by subst hb'; exact q⟩ w' x'
theorem tw_or' {x y : Bool} {Q : Bool → List Ob → Prop} (ha : TW K t1 ρ c fun b c' => b = x ∧ c' = c) (hb : x = false → TW K t2 ρ c fun b c' => b = y ∧ c' = c) (q : Q (x || y) c) : TW K (tOr t1 t2) ρ c Q :=
  tw_or fun σ H as F w e Q' k => ha σ H as F w e Q' fun b H' as' F' c' ⟨e1, e2⟩ w' x' => by
    subst e1 e2
    exact k b H' as' F' c' ⟨fun hb' => by subst hb'; exact q, fun hb' => fun σ2 H2 as2 F2 w2 e2 Q2 k2 => hb hb' σ2 H2 as2 F2 w2 e2 Q2 fun b3 H3 as3 F3 c3 ⟨e3, e4⟩ w3 x3 => by
      subst e3 e4 hb'
      exact k2 b3 H3 as3 F3 c3 q w3 x3⟩ w' x'
theorem ew_if' {x : Bool} {p1 p2 : P} (h : TW K tt ρ c fun b c' => b = x ∧ c' = c) (h1 : x = true → EW K ta ρ c fun p c' => p = p1 ∧ c' = c) (h2 : x = false → EW K tb ρ c fun p c' => p = p2 ∧ c' = c) (q : Q (if x = true then p1 else p2) c) : EW K (tIf tt ta tb) ρ c Q :=
  ew_if fun σ H as F w e Q' k => h σ H as F w e Q' fun b H' as' F' c' ⟨e1, e2⟩ w' x' => by
    subst e1 e2
    exact k b H' as' F' c' ⟨fun hb => (h1 hb).mono fun p c2 ⟨e3, e4⟩ => by rw [e3, e4]; rw [if_pos hb] at q; exact q, fun hb => (h2 hb).mono fun p c2 ⟨e3, e4⟩ => by rw [e3, e4]; rw [if_neg (by rw [hb]; decide)] at q; exact q⟩ w' x'
theorem ew_chain' {g g' : Int → Int → Bool} {tc : TE} (h : EW K ta ρ c fun p c1 => ∃ i, p = .int i ∧ EW K tb ρ c1 fun q c2 => ∃ j l, q = .int j ∧ (g i j = true → EW K tc ρ c2 fun r c3 => r = .int l ∧ c3 = c2) ∧ Q (.bl (g i j && g' j l)) c2) :
    EW K (tChain (rI0 fun i j => .bl (g i j)) (rI0 fun i j => .bl (g' i j)) ta tb tc) ρ c Q :=
  ew_chain (h.mono fun p c1 ⟨i, ep, h2⟩ => ⟨i, ep, h2.mono fun q c2 ⟨j, l, eq, h3, hq⟩ => ⟨j, eq, fun hg => (h3 hg).mono fun r c3 ⟨e1, e2⟩ => ⟨l, e1, by rw [e2]; rw [hg] at hq; exact hq⟩, fun hg => by rw [hg] at hq; exact hq⟩⟩)
/-- what comes behind may be shown of the result's equation -/
theorem ew_of {x : P} (h : EW K te ρ c fun p c' => p = x ∧ c' = c) (q : Q x c) : EW K te ρ c Q := h.mono fun p c' ⟨e1, e2⟩ => by rw [e1, e2]; exact q
/-- cells that were made on the way are forgotten -/
theorem ew_forget (h : (∀ o ∈ c, Ob.bel c.length o = true) → EW K te ρ c (RtOk c Q)) : EW K te ρ c Q := fun σ H as F w e Q' k =>
  h w.bel σ H as F w e Q' fun v H' as' F' p c' q w' x' r' => by
    obtain ⟨as2, c2, q2, w2, x2, r2⟩ := reach (S := fun _ _ _ => True) (qs := []) (vs := []) w q w' x' r'
    exact k v H' as2 F' p c2 q2 w2 x2 r2
theorem tw_forget {Q : Bool → List Ob → Prop} (h : (∀ o ∈ c, Ob.bel c.length o = true) → TW K tt ρ c fun b c' => RtOk c (fun _ c2 => Q b c2) .non c') : TW K tt ρ c Q := fun σ H as F w e Q' k =>
  h w.bel σ H as F w e Q' fun b H' as' F' c' q w' x' => by
    obtain ⟨as2, c2, q2, w2, x2, r2⟩ := reach (S := fun _ _ _ => True) (qs := []) (vs := []) w q w' x' .non
    exact k b H' as2 F' c2 q2 w2 x2
/-- an end that follows -/
theorem rt_is {p p' : P} {c' : List Ob} (h : Q p c') (e : p' = p) : RtOk c Q p' c' := by rw [e]; exact .inl h
theorem rt_dead {p p' : P} {c' : List Ob} (h : False) : RtOk c Q p' c' := h.elim

/-! ### ranges -/
theorem iw_rngV {Q : List P → List Ob → Prop} (h : EW K te ρ c fun p c1 => ∃ lo hi, p = .rng lo hi ∧ (-(2 ^ 62) ≤ lo ∧ lo < 2 ^ 62 ∧ -(2 ^ 62) ≤ hi ∧ hi < 2 ^ 62) ∧ Q (rangeP lo (hi - lo).toNat) c1) : IW K (iRngV te) ρ c Q := fun σ H as F w e R k =>
  h σ H as F w e _ fun v H1 as1 F1 p c1 ⟨lo, hi, ep, b, q⟩ w1 x1 r1 => by
    subst ep
    cases r1 with
    | rng h1 => exact ⟨_, lo, hi, rfl, w1.sub _ _ h1, b, k _ H1 as1 F1 _ c1 q w1 x1 jok_range⟩
theorem reps_rg (a b : Int) : Reps K F as (rgV a b) (rangeP a (b - a).toNat) := by
  unfold rgV rangeP
  generalize (b - a).toNat = n
  have h : ∀ l : List Nat, Reps K F as (l.map fun (i : Nat) => V.int (a + (i : Int))) (l.map fun (i : Nat) => P.int (a + (i : Int))) := fun l => by
    induction l with
    | nil => exact .nil
    | cons x l ih => exact .cons (.int _) ih
  exact h _
theorem ew_listRg1 (h : EW K ta ρ c fun p c1 => ∃ n, p = .int n ∧ RgOk 0 n ∧ Q (.lst (rangeP 0 n.toNat)) c1) : EW K (tLstRg (tRg1 ta)) ρ c Q := fun σ H as F w e Q' k =>
  h σ H as F w e _ fun v H1 as1 F1 p c1 ⟨n, ep, hb, q⟩ w1 x1 r1 => by
    subst ep; cases r1
    refine ⟨n, rfl, hb, fun l hl => ?_⟩
    obtain ⟨w2, x2⟩ := w1.alloc hl (.lst (rgV 0 n))
    have r := reps_rg (K := K) (F := upd F1 l (.lst (rgV 0 n))) (as := as1) 0 n
    rw [Int.sub_zero] at r
    exact k _ _ _ _ _ c1 q w2 (x1.trans x2) (.lst upd_same r)
theorem ew_listRg2 (h : EW K ta ρ c fun p c1 => ∃ m, p = .int m ∧ EW K tb ρ c1 fun q c2 => ∃ n, q = .int n ∧ RgOk m n ∧ Q (.lst (rangeP m (n - m).toNat)) c2) : EW K (tLstRg (tRg2 ta tb)) ρ c Q := fun σ H as F w e Q' k =>
  h σ H as F w e _ fun v H1 as1 F1 p c1 ⟨m, ep, h2⟩ w1 x1 r1 => by
    subst ep; cases r1
    refine h2 σ H1 as1 F1 w1 (e.xt x1) _ fun v2 H2 as2 F2 p2 c2 ⟨n, ep2, hb, q⟩ w2 x2 r2 => ?_
    subst ep2; cases r2
    refine ⟨m, n, rfl, rfl, hb, fun l hl => ?_⟩
    obtain ⟨w3, x3⟩ := w2.alloc hl (.lst (rgV m n))
    exact k _ _ _ _ _ c2 q w3 ((x1.trans x2).trans x3) (.lst upd_same (reps_rg m n))

/-! ### dict(pairs), len of it -/
theorem pairs_at : ∀ {kvs : List (Key × P)} {xs : List V}, Reps K F as xs (kvs.map fun kv => P.tup [(match kv.1 with | .inl i => P.int i | .inr s => P.str s), kv.2]) →
    ∃ (ps : List Addr) (vs : List (Key × V)), xs = ps.map V.ref ∧ Paired (fun p kv => SqT K F p [kV kv.1, kv.2]) ps vs ∧ RepKs K F as vs kvs
  | [], _, h => by cases h; exact ⟨[], [], rfl, .nil, rfl, .nil⟩
  | (k, p) :: kvs, _, h => by
    cases h with
    | cons h1 h2 =>
      obtain ⟨ps, vs, e, pr, r1, r2⟩ := pairs_at h2
      cases h1 with
      | @tup a ys _ g1 g2 =>
        cases g2 with
        | @cons v1 _ _ _ a1 g3 =>
          cases g3 with
          | @cons v2 _ _ _ a2 g4 =>
            cases g4
            have ek : v1 = kV k := by
              cases k with
              | inl i => cases a1; rfl
              | inr s => cases a1; rfl
            subst ek
            exact ⟨a :: ps, (k, v2) :: vs, by rw [e]; rfl, .cons g1 pr, by rw [List.map_cons, List.map_cons, r1], .cons a2 r2⟩
def putP (kvs : List (Key × P)) (k : Key) (p : P) : List (Key × P) :=
  if (kvs.any fun kv => decide (kv.1 = k)) = true then kvs.map (fun kv => if kv.1 = k then (kv.1, p) else kv) else kvs ++ [(k, p)]
def mergeP (kvs more : List (Key × P)) : List (Key × P) := more.foldl (fun acc kv => putP acc kv.1 kv.2) kvs
theorem RepKs.uncons {xs : List (Key × V)} {k : Key} {p : P} {ps : List (Key × P)} (h : RepKs K F as xs ((k, p) :: ps)) : ∃ v ys, xs = (k, v) :: ys ∧ Rep K F as v p ∧ RepKs K F as ys ps := by
  obtain ⟨h1, h2⟩ := h
  cases xs with
  | nil => cases h1
  | cons x ys =>
    obtain ⟨k', v⟩ := x
    simp only [List.map_cons, List.cons.injEq] at h1
    cases h2 with
    | cons r1 r2 => exact ⟨v, ys, by rw [h1.1], r1, h1.2, r2⟩
theorem RepKs.put : ∀ {kvs : List (Key × P)} {xs : List (Key × V)} (k : Key) {p : P} {v : V}, RepKs K F as xs kvs → Rep K F as v p → RepKs K F as (putK xs k v) (putP kvs k p) := fun {kvs xs} k {p v} h r => by
  have ha : (xs.any fun kv => decide (kv.1 = k)) = (kvs.any fun kv => decide (kv.1 = k)) := by
    have e1 : ∀ l : List (Key × V), (l.any fun kv => decide (kv.1 = k)) = (l.map (·.1)).any fun x => decide (x = k) := fun l => by rw [List.any_map]; rfl
    have e2 : ∀ l : List (Key × P), (l.any fun kv => decide (kv.1 = k)) = (l.map (·.1)).any fun x => decide (x = k) := fun l => by rw [List.any_map]; rfl
    rw [e1, e2, h.1]
  unfold putK putP
  rw [ha]
  split
  · clear ha
    rename_i hh; clear hh
    induction kvs generalizing xs with
    | nil =>
      obtain ⟨h1, h2⟩ := h
      cases xs with
      | nil => exact ⟨rfl, .nil⟩
      | cons => cases h1
    | cons q kvs ih =>
      obtain ⟨kq, pq⟩ := q
      obtain ⟨v', ys, rfl, r1, r2⟩ := h.uncons
      obtain ⟨i1, i2⟩ := ih r2
      by_cases hk : kq = k
      · refine ⟨?_, ?_⟩
        · simp only [List.map_cons, hk, if_true, List.cons.injEq, true_and] at i1 ⊢
          exact i1
        · simp only [List.map_cons, hk, if_true]
          exact .cons r i2
      · refine ⟨?_, ?_⟩
        · simp only [List.map_cons, hk, if_false, List.cons.injEq, true_and] at i1 ⊢
          exact i1
        · simp only [List.map_cons, hk, if_false]
          exact .cons r1 i2
  · refine ⟨by rw [List.map_append, List.map_append, h.1]; rfl, ?_⟩
    rw [List.map_append, List.map_append]
    exact h.2.append (.cons r .nil)
theorem RepKs.merge : ∀ {more : List (Key × P)} {ms : List (Key × V)} {kvs : List (Key × P)} {xs : List (Key × V)}, RepKs K F as ms more → RepKs K F as xs kvs → RepKs K F as (mergeK xs ms) (mergeP kvs more)
  | [], ms, _, _, h, g => by
    obtain ⟨h1, h2⟩ := h
    cases ms with
    | nil => exact g
    | cons => cases h1
  | (k, p) :: more, _, _, _, h, g => by
    obtain ⟨v, ys, rfl, r1, r2⟩ := h.uncons
    show RepKs K F as (mergeK (putK _ k v) ys) (mergeP (putP _ k p) more)
    exact RepKs.merge r2 (g.put k r1)
def keyP : Key → P
  | .inl i => .int i
  | .inr s => .str s
def pairP (kv : Key × P) : P := .tup [keyP kv.1, kv.2]
theorem pairP_eq (kvs : List (Key × P)) : kvs.map pairP = kvs.map fun kv => P.tup [(match kv.1 with | .inl i => P.int i | .inr s => P.str s), kv.2] := by
  refine List.map_congr_left fun kv _ => ?_
  obtain ⟨k, p⟩ := kv
  cases k <;> rfl
theorem ew_dictC (h : EW K te ρ c fun p c1 => ∃ kvs : List (Key × P), LstOf c1 p (kvs.map pairP) ∧ Q (.cell c1.length) (c1 ++ [.dK (mergeP [] kvs)])) :
    EW K (tCB (fun xs H Q => ∃ (a : Addr) (ps : List Addr) (kvs : List (Key × V)), xs = [V.ref a] ∧ SqL K H a (ps.map V.ref) ∧ Paired (fun p kv => SqT K H p [kV kv.1, kv.2]) ps kvs ∧ ∀ p, H p = none → Q (.ref p) (upd H p (.dK (mergeK [] kvs)))) (tCons te tNil)) ρ c Q :=
  ew_cb1 (h.mono fun p c1 ⟨kvs, hs, q⟩ v H1 as1 F1 w1 r1 Q' k => by
    obtain ⟨a, ys, rfl, h1, h2⟩ := hs.at w1 r1
    rw [pairP_eq] at h2
    obtain ⟨ps, vs, e, pr, rk⟩ := pairs_at h2
    rw [e] at h1
    refine ⟨a, ps, vs, rfl, h1, L2.Paired.mapP pr fun p kv hq => ex_t w1.sub hq, fun l hl => ?_⟩
    have hF : F1 l = none := fresh_back w1.sub hl
    have rm : RepKs K F1 as1 (mergeK [] vs) (mergeP [] kvs) := rk.merge ⟨rfl, .nil⟩
    obtain ⟨w2, x2⟩ := w1.allocCell hl (.dK (mergeK [] vs)) (.dK (mergeP [] kvs)) ⟨hF, _, upd_same, rm.1, rm.2.mono (Ex.refl _) (List.prefix_append _ _)⟩
    exact k _ _ _ _ _ _ q w2 x2 (.cell (by rw [← w1.len, List.getElem?_append_right (Nat.le_refl _), Nat.sub_self]; rfl)))
theorem ew_lenD (h : EW K te ρ c fun p c1 => ∃ n kvs, p = .cell n ∧ c1[n]? = some (.dK kvs) ∧ Q (.int (kvs.length : Int)) c1) : EW K (tCB (fun xs H Q => ∃ a kvs, xs = [V.ref a] ∧ H a = some (.dK kvs) ∧ Q (.int kvs.length) H) (tCons te tNil)) ρ c Q :=
  ew_cb1 (h.mono fun p c1 ⟨n, kvs, ep, hc, q⟩ v H1 as1 F1 w1 r1 Q' k => by
    subst ep
    cases r1 with
    | @cell _ a hn =>
      obtain ⟨_, xs, e, r⟩ := w1.cel _ _ _ hn hc
      refine ⟨a, xs, rfl, e, ?_⟩
      have el : xs.length = kvs.length := by rw [← List.length_map (as := xs) (·.1), r.1, List.length_map]
      rw [el]
      exact k _ H1 as1 F1 _ c1 q w1 Xt.refl (.int _))

/-! ### methods of lists that change -/
theorem ew_app {to : TE} (h : EW K to ρ c fun p c1 => ∃ n x0, p = .cell n ∧ c1[n]? = some (.lst x0) ∧ EW K te ρ c1 fun q c2 => ∃ xs, c2[n]? = some (.lst xs) ∧ xs.length < 100000 ∧ Q .non (c2.set n (.lst (xs ++ [q])))) : EW K (tBM K "list" rAppend to (tCons te tNil)) ρ c Q := fun σ H as F w e Q' k =>
  h σ H as F w e _ fun v H1 as1 F1 p c1 ⟨n, x0, ep, hc, h2⟩ w1 x1 r1 => by
    subst ep
    cases r1 with
    | @cell _ a hn =>
      obtain ⟨_, ys, e0, _⟩ := w1.cel _ _ _ hn hc
      refine ⟨.inl ⟨rfl, _, sq_of e0⟩, h2 σ H1 as1 F1 w1 (e.xt x1) _ fun v2 H2 as2 F2 p2 c2 ⟨xs, hc2, hz, q⟩ w2 x2 r2 => ?_⟩
      have hn2 := pre_get x2.pre hn
      obtain ⟨hF, zs, e2, rr⟩ := w2.cel _ _ _ hn2 hc2
      obtain ⟨w3, x3⟩ := w2.put (ob := .lst (xs ++ [p2])) (ob0 := .dead) hn2 hF (.lst (zs ++ [v2])) ⟨hF, _, upd_same, rr.append (.cons r2 .nil)⟩
      exact ⟨a, zs, v2, rfl, rfl, e2, sz_lt (by rw [rr.length]; exact hz), k _ _ _ _ _ _ q w3 ((x1.trans x2).trans x3) .non⟩
theorem ew_ext {to : TE} (h : EW K to ρ c fun p c1 => ∃ n x0, p = .cell n ∧ c1[n]? = some (.lst x0) ∧ EW K te ρ c1 fun q c2 => ∃ xs ys, q = .lst ys ∧ c2[n]? = some (.lst xs) ∧ xs.length + ys.length ≤ 100000 ∧ Q .non (c2.set n (.lst (xs ++ ys)))) : EW K (tBM K "list" rExtend to (tCons te tNil)) ρ c Q := fun σ H as F w e Q' k =>
  h σ H as F w e _ fun v H1 as1 F1 p c1 ⟨n, x0, ep, hc, h2⟩ w1 x1 r1 => by
    subst ep
    cases r1 with
    | @cell _ a hn =>
      obtain ⟨_, ys0, e0, _⟩ := w1.cel _ _ _ hn hc
      refine ⟨.inl ⟨rfl, _, sq_of e0⟩, h2 σ H1 as1 F1 w1 (e.xt x1) _ fun v2 H2 as2 F2 p2 c2 ⟨xs, ys, ey, hc2, hz, q⟩ w2 x2 r2 => ?_⟩
      subst ey
      cases r2 with
      | @lst b us _ hb rb =>
        have hn2 := pre_get x2.pre hn
        obtain ⟨hF, zs, e2, rr⟩ := w2.cel _ _ _ hn2 hc2
        obtain ⟨w3, x3⟩ := w2.put (ob := .lst (xs ++ ys)) (ob0 := .dead) hn2 hF (.lst (zs ++ us)) ⟨hF, _, upd_same, rr.append rb⟩
        exact ⟨a, b, zs, us, rfl, rfl, e2, w2.sub _ _ hb, sz_of (by rw [rr.length, rb.length]; exact hz), k _ _ _ _ _ _ q w3 ((x1.trans x2).trans x3) .non⟩
/-- xs.pop(i) -/
theorem ew_popAt {to : TE} (h : EW K to ρ c fun p c1 => ∃ n x0, p = .cell n ∧ c1[n]? = some (.lst x0) ∧ EW K te ρ c1 fun q c2 => ∃ (xs : List P) (i : Nat) (y : P), q = .int (i : Int) ∧ c2[n]? = some (.lst xs) ∧ i < 2 ^ 62 ∧ xs[i]? = some y ∧ Q y (c2.set n (.lst (xs.eraseIdx i)))) : EW K (tBM K "list" rPopAt to (tCons te tNil)) ρ c Q := fun σ H as F w e Q' k =>
  h σ H as F w e _ fun v H1 as1 F1 p c1 ⟨n, x0, ep, hc, h2⟩ w1 x1 r1 => by
    subst ep
    cases r1 with
    | @cell _ a hn =>
      obtain ⟨_, ys0, e0, _⟩ := w1.cel _ _ _ hn hc
      refine ⟨.inl ⟨rfl, _, sq_of e0⟩, h2 σ H1 as1 F1 w1 (e.xt x1) _ fun v2 H2 as2 F2 p2 c2 ⟨xs, i, y, eq, hc2, hi, hy, q⟩ w2 x2 r2 => ?_⟩
      subst eq; cases r2
      have hn2 := pre_get x2.pre hn
      obtain ⟨hF, zs, e2, rr⟩ := w2.cel _ _ _ hn2 hc2
      obtain ⟨z, ez, rz⟩ := rr.get hy
      have hlt : i < zs.length := (List.getElem?_eq_some_iff.mp ez).1
      have rer : ∀ {ps : List P} {vs : List V} (j : Nat), Reps K F2 as2 vs ps → Reps K F2 as2 (vs.eraseIdx j) (ps.eraseIdx j) := fun {ps vs} j r => by
        induction ps generalizing vs j with
        | nil => cases r; exact .nil
        | cons p ps ih =>
          cases r with
          | cons r1 r2 =>
            cases j with
            | zero => exact r2
            | succ j => exact .cons r1 (ih j r2)
      obtain ⟨w3, x3⟩ := w2.put (ob := .lst (xs.eraseIdx i)) (ob0 := .dead) hn2 hF (.lst (zs.eraseIdx i)) ⟨hF, _, upd_same, rer i rr⟩
      refine ⟨a, zs, (i : Int), i, z, rfl, rfl, e2, by omega, by omega, ?_, ez, k _ _ _ _ _ _ q w3 ((x1.trans x2).trans x3) (rz.xt x3)⟩
      unfold seqIndex?
      have h1 : ¬ ((i : Int) < 0) := by omega
      simp [h1, hlt]

/-! ### slices -/
def OW (K : PySem.W.Frag) (t : TO) (ρ : PR) (c : List Ob) (Q : Option Int → List Ob → Prop) : Prop :=
  ∀ σ H as F, Wd K H as F c → Env K F as σ ρ → ∀ Q' : Option Int → Hp → Prop, (∀ o H' as' F' c', Q o c' → Wd K H' as' F' c' → Xt H as F H' as' F' → Q' o H') → t σ H Q'
theorem ow_none {Q : Option Int → List Ob → Prop} (q : Q none c) : OW K tNoPart ρ c Q := fun σ H as F w e Q' k => k none H as F c q w Xt.refl
theorem ow_some {Q : Option Int → List Ob → Prop} (h : EW K te ρ c fun p c1 => ∃ i, p = .int i ∧ Q (some i) c1) : OW K (tPart te) ρ c Q := fun σ H as F w e Q' k =>
  h σ H as F w e _ fun v H1 as1 F1 p c1 ⟨i, ep, q⟩ w1 x1 r1 => by
    subst ep; cases r1
    exact ⟨i, rfl, k _ H1 as1 F1 c1 q w1 x1⟩
def cutP (xs : List P) (lo hi : Option Int) : List P := (xs.drop (HT.sIx xs.length 0 lo)).take (HT.sIx xs.length xs.length hi - HT.sIx xs.length 0 lo)
theorem reps_cut {xs : List V} {ps : List P} (r : Reps K F as xs ps) (lo hi : Option Int) : Reps K F as (cutV xs lo hi) (cutP ps lo hi) := by
  unfold cutV cutP
  rw [r.length]
  exact (r.drop _).take _
theorem ew_slL {o1 o2 : TO} (h : EW K te ρ c fun p c1 => OW K o1 ρ c1 fun lo c2 => OW K o2 ρ c2 fun hi c3 => ∃ xs, LstOf c3 p xs ∧ Q (.lst (cutP xs lo hi)) c3) : EW K (tSl (rSlL K) te o1 o2) ρ c Q := fun σ H as F w e Q' k =>
  h σ H as F w e _ fun v H1 as1 F1 p c1 h2 w1 x1 r1 => h2 σ H1 as1 F1 w1 (e.xt x1) _ fun lo H2 as2 F2 c2 h3 w2 x2 => h3 σ H2 as2 F2 w2 (e.xt (x1.trans x2)) _ fun hi H3 as3 F3 c3 ⟨xs, hl, q⟩ w3 x3 => by
    obtain ⟨a, ys, rfl, h1, h2⟩ := hl.at w3 (r1.xt (x2.trans x3))
    refine ⟨a, ys, rfl, h1, fun l hl => ?_⟩
    obtain ⟨w4, x4⟩ := w3.alloc hl (.lst (cutV ys lo hi))
    exact k _ _ _ _ _ c3 q w4 (((x1.trans x2).trans x3).trans x4) (.lst upd_same ((reps_cut h2 lo hi).xt x4))
theorem ew_slT {o1 o2 : TO} (h : EW K te ρ c fun p c1 => OW K o1 ρ c1 fun lo c2 => OW K o2 ρ c2 fun hi c3 => ∃ xs, p = .tup xs ∧ ¬ (HT.sIx xs.length 0 lo = 0 ∧ HT.sIx xs.length xs.length hi = xs.length) ∧ Q (.tup (cutP xs lo hi)) c3) : EW K (tSl (rSlT K) te o1 o2) ρ c Q := fun σ H as F w e Q' k =>
  h σ H as F w e _ fun v H1 as1 F1 p c1 h2 w1 x1 r1 => h2 σ H1 as1 F1 w1 (e.xt x1) _ fun lo H2 as2 F2 c2 h3 w2 x2 => h3 σ H2 as2 F2 w2 (e.xt (x1.trans x2)) _ fun hi H3 as3 F3 c3 ⟨xs, hl, hne, q⟩ w3 x3 => by
    subst hl
    cases r1.xt (x2.trans x3) with
    | @tup a ys _ h1 h2 =>
      refine ⟨a, ys, rfl, ex_t w3.sub h1, by rw [h2.length]; exact hne, fun l hl => ?_⟩
      obtain ⟨w4, x4⟩ := w3.alloc hl (.tup (cutV ys lo hi))
      exact k _ _ _ _ _ c3 q w4 (((x1.trans x2).trans x3).trans x4) (.tup (st_of upd_same) ((reps_cut h2 lo hi).xt x4))
/-- a, b, c = x, y, z -/
theorem sw_par3 {i j l : Nat} (h : AW K tl ρ c fun ps c1 => ∃ p q r, ps = [p, q, r] ∧ D.nx (((ρ.set i (some p)).set j (some q)).set l (some r)) c1) : SW K (tPar3 i j l tl) ρ c D := fun σ H as F w e D' k =>
  h σ H as F w e _ fun vs H1 as1 F1 ps c1 ⟨p, q, r, ep, hq⟩ w1 x1 r1 => by
    subst ep
    cases r1 with
    | cons r1 r2 =>
      cases r2 with
      | cons r2 r3 =>
        cases r3 with
        | cons r3 r4 =>
          cases r4
          exact ⟨_, _, _, rfl, k.nx _ H1 as1 F1 _ c1 hq w1 x1 ((((e.xt x1).set r1 i).set r2 j).set r3 l)⟩
end
end PL

set_option Elab.async false
set_option linter.all false
set_option maxRecDepth 100000
set_option maxHeartbeats 2000000
namespace PL
open PySem PySem.Spec PyProof.Rows L2 Evl
section
variable {K : PySem.W.Frag} {F H : Hp} {as : List Addr} {c : List Ob} {ρ : PR} {Q : PQ} {D : PEnds} {te ta tb : TE} {tt t1 t2 : TT} {tl : TA}
/-! ### the hand layer's rules with the written part named -/
theorem iw_klst {Q : List P → List Ob → Prop} (h : EW K te ρ c fun p c1 => ∃ ps, p = .klst ps ∧ Q ps c1) : IW K (iList K te) ρ c Q := fun σ H as F w e R k =>
  h σ H as F w e _ fun v H1 as1 F1 p c1 ⟨ps, ep, q⟩ w1 x1 r1 => by
    subst ep
    cases r1 with
    | @klst a xs _ h1 h2 => exact ⟨a, rfl, ⟨xs, ex_l w1.sub h1⟩, k _ H1 as1 F1 ps c1 q w1 x1 (jok_list h1 h2)⟩
theorem IW.mono {wi : TI} {Q1 Q2 : List P → List Ob → Prop} (h : IW K wi ρ c Q1) (i : ∀ its c', Q1 its c' → Q2 its c') : IW K wi ρ c Q2 := fun σ H as F w e R k => h σ H as F w e R fun J H' as' F' its c' q => k J H' as' F' its c' (i its c' q)
theorem TW.mono {Q1 Q2 : Bool → List Ob → Prop} (h : TW K tt ρ c Q1) (i : ∀ b c', Q1 b c' → Q2 b c') : TW K tt ρ c Q2 := fun σ H as F w e Q' k => h σ H as F w e Q' fun b H' as' F' c' q => k b H' as' F' c' (i b c' q)
theorem GW.mono {g : TG} {p : P} {Q1 Q2 : PR → List Ob → Prop} (h : GW K g p ρ c Q1) (i : ∀ ρ' c', Q1 ρ' c' → Q2 ρ' c') : GW K g p ρ c Q2 := fun v σ H as F w e r Q' k => h v σ H as F w e r Q' fun σ' H' as' F' ρ' c' q => k σ' H' as' F' ρ' c' (i ρ' c' q)
/-- a comprehension over known items, element and test of values -/
theorem ew_lcT {α : Type} {wi : TI} {g : TG} {vs : List Nat} (inj : α → P) (xs : List α) (f : α → Bool) (v : α → P) (hg : GC g vs) (hI : IW K wi ρ c fun items c1 => items = xs.map inj ∧ c1 = c) (hz : xs.length ≤ 100000)
    (turn : ∀ x, x ∈ xs → GW K g (inj x) (wipeP ρ vs) c fun ρ2 c2 => c2 = c ∧ TW K tt ρ2 c (fun b c3 => b = f x ∧ c3 = c) ∧ (f x = true → EW K te ρ2 c fun y c4 => y = v x ∧ c4 = c)) (q : Q (.lst ((xs.filter f).map v)) c) : EW K (tLc wi g tt te vs) ρ c Q := by
  refine ew_lc hg (hI.mono fun items c1 ⟨e1, e2⟩ => ?_)
  subst e1 e2
  refine ⟨by rw [List.length_map]; exact hz, fun i acc c' => acc = ((xs.take i).filter f).map v ∧ c' = c1, ⟨by simp, rfl⟩, fun i p acc c' hi ⟨ea, ec⟩ => ?_, fun acc c' ⟨ea, ec⟩ => ?_⟩
  · subst ec
    rw [List.getElem?_map] at hi
    cases hx : xs[i]? with
    | none => rw [hx] at hi; cases hi
    | some x =>
      rw [hx] at hi
      cases hi
      refine (turn x (List.mem_of_getElem? hx)).mono fun ρ2 c2 ⟨e1, ht, hel⟩ => ?_
      subst e1
      refine ht.mono fun b c3 ⟨eb, e3⟩ => ?_
      subst e3
      have et : xs.take (i + 1) = xs.take i ++ [x] := by rw [List.take_add_one, hx]; rfl
      refine ⟨fun hb => (hel (by rw [← eb]; exact hb)).mono fun y c4 ⟨ey, e4⟩ => ⟨?_, e4⟩, fun hb => ⟨?_, rfl⟩⟩
      · rw [et, List.filter_append, List.map_append, ea, ey, List.filter_cons, if_pos (by rw [← eb]; exact hb)]; rfl
      · rw [et, List.filter_append, List.map_append, ea, List.filter_cons, if_neg (by rw [← eb, hb]; decide)]
        simp
  · subst ec
    rw [List.length_map, List.take_length] at ea
    rw [ea]
    exact q
theorem ew_ifI {x : Bool} {a b : Int} (h : TW K tt ρ c fun b c' => b = x ∧ c' = c) (h1 : x = true → EW K ta ρ c fun p c' => p = .int a ∧ c' = c) (h2 : x = false → EW K tb ρ c fun p c' => p = .int b ∧ c' = c) (q : Q (.int (if x = true then a else b)) c) : EW K (tIf tt ta tb) ρ c Q :=
  ew_if' h h1 h2 (by cases x <;> exact q)
theorem ew_gen {i0 : Int} (h : EW K te ρ c fun p c' => p = .int i0 ∧ c' = c) (k : ∀ i : Int, i = i0 → Q (.int i) c) : EW K te ρ c Q := ew_of h (k i0 rfl)
theorem ew_ixS (h : EW K ta ρ c fun p c1 => EW K tb ρ c1 fun q c2 => ∃ xs i y, SeqOf c2 p xs ∧ q = .int i ∧ atI xs i = some y ∧ Q y c2) : EW K (tOp (rIx K) ta tb) ρ c Q := fun σ H as F w e Q' k =>
  h σ H as F w e _ fun v H1 as1 F1 p c1 h2 w1 x1 r1 => by
    refine h2 σ H1 as1 F1 w1 (e.xt x1) _ fun v2 H2 as2 F2 p2 c2 ⟨xs, i, y, hl, eq, hy, q⟩ w2 x2 r2 => ?_
    subst eq; cases r2
    obtain ⟨a, ys, rfl, h1, h3⟩ := hl.at w2 (r1.xt x2)
    obtain ⟨z, e1, r3⟩ := h3.atI hy
    rcases h1 with h1 | h1
    · exact .inl ⟨a, ys, i, z, rfl, rfl, h1, e1, k _ H2 as2 F2 _ c2 q w2 (x1.trans x2) r3⟩
    · exact .inr (.inl ⟨a, ys, i, z, rfl, rfl, h1, e1, k _ H2 as2 F2 _ c2 q w2 (x1.trans x2) r3⟩)
theorem atI_ints {ns : List Int} {i : Int} (h0 : 0 ≤ i) (h : i < (ns.length : Int)) : atI (ns.map P.int) i = some (.int (ns.getD i.toNat 0)) := by
  obtain ⟨n, rfl⟩ := Int.eq_ofNat_of_zero_le h0
  have hn : n < ns.length := by omega
  rw [atI_nat (v := .int (ns.getD n 0))]
  · rfl
  · rw [List.getElem?_map, List.getElem?_eq_getElem hn, List.getD_eq_getElem?_getD, List.getElem?_eq_getElem hn]; rfl
theorem getD_mem {ns : List Int} {i : Int} (h0 : 0 ≤ i) (h : i < (ns.length : Int)) : ns.getD i.toNat 0 ∈ ns := by
  have hn : i.toNat < ns.length := by omega
  rw [List.getD_eq_getElem?_getD, List.getElem?_eq_getElem hn]
  exact List.getElem_mem hn
theorem set_get {c : List Ob} {n : Nat} {o o' : Ob} (h : c[n]? = some o) : (c.set n o')[n]? = some o' := List.getElem?_set_self (List.getElem?_eq_some_iff.mp h).1
theorem ew_lcM {α : Type} {wi : TI} {g : TG} {vs : List Nat} (inj : α → P) (xs : List α) (v : α → P) (hg : GC g vs) (hI : IW K wi ρ c fun items c1 => items = xs.map inj ∧ c1 = c) (hz : xs.length ≤ 100000)
    (turn : ∀ x, x ∈ xs → GW K g (inj x) (wipeP ρ vs) c fun ρ2 c2 => c2 = c ∧ TW K tt ρ2 c (fun b c3 => b = true ∧ c3 = c) ∧ (true = true → EW K te ρ2 c fun y c4 => y = v x ∧ c4 = c)) (q : Q (.lst (xs.map v)) c) : EW K (tLc wi g tt te vs) ρ c Q :=
  ew_lcT inj xs (fun _ => true) v hg hI hz turn (by
    have e : xs.filter (fun _ => true) = xs := by simp
    rw [e]; exact q)
theorem LstOf.of {p : P} {xs ys : List P} (h : LstOf c p xs) (e : xs = ys) : LstOf c p ys := e ▸ h
theorem SeqOf.of {p : P} {xs ys : List P} (h : SeqOf c p xs) (e : xs = ys) : SeqOf c p ys := e ▸ h
theorem filter_true {α : Type} (xs : List α) : xs.filter (fun _ => true) = xs := by simp
/-- t + u, t not empty -/
theorem ew_catT (h : EW K ta ρ c fun p c1 => EW K tb ρ c1 fun q c2 => ∃ xs ys, p = .tup xs ∧ q = .tup ys ∧ (xs ≠ [] ∧ xs.length + ys.length ≤ 100000) ∧ Q (.tup (xs ++ ys)) c2) : EW K (tOp (rCatT K) ta tb) ρ c Q := fun σ H as F w e Q' k =>
  h σ H as F w e _ fun v H1 as1 F1 p c1 h2 w1 x1 r1 => by
    refine h2 σ H1 as1 F1 w1 (e.xt x1) _ fun v2 H2 as2 F2 p2 c2 ⟨xs, ys, ep, eq, ⟨hn, hz⟩, q⟩ w2 x2 r2 => ?_
    subst ep eq
    have r1' := r1.xt x2
    cases r1' with
    | @tup a us _ h1 g1 =>
      cases r2 with
      | @tup b vs _ h2 g2 =>
        refine ⟨a, b, us, vs, rfl, rfl, ex_t w2.sub h1, ex_t w2.sub h2, fun z => ?_, sz_of (by rw [g1.length, g2.length]; exact hz), fun z => ?_, fun z l hl => ?_⟩
        · subst z; have := g1.length; cases xs with
          | nil => exact hn rfl
          | cons => cases this
        · subst z
          have ey : ys = [] := by
            have := g2.length
            cases ys with
            | nil => rfl
            | cons => cases this
          subst ey
          rw [List.append_nil] at q
          exact k _ H2 as2 F2 _ c2 q w2 (x1.trans x2) (.tup h1 g1)
        · obtain ⟨w3, x3⟩ := w2.alloc hl (.tup (us ++ vs))
          exact k _ _ _ _ _ c2 q w3 ((x1.trans x2).trans x3) (.tup (st_of upd_same) ((g1.append g2).xt x3))
end
section
variable {X : Cx} {K : PySem.W.Frag} {tg e o a b : Expr} {es : List Expr} {te to : TE} {ta t : TA}
theorem op_in_seq' (hK : X.K = K) : OpR X (compareOp .In) (rIn K false) := by subst hK; exact op_in_seq
theorem op_notIn_seq' (hK : X.K = K) : OpR X (compareOp .NotIn) (rIn K true) := by subst hK; exact op_notIn_seq
theorem op_eqD' (hK : X.K = K) (hu : X.A.units + 64 < cLine) : OpR X (compareOp .Eq) (rEqD K) := by subst hK; exact op_eqD hu
theorem op_neD' (hK : X.K = K) (hu : X.A.units + 64 < cLine) : OpR X (compareOp .NotEq) (rNeD K) := by subst hK; exact op_neD hu
theorem op_catT' (hK : X.K = K) : OpR X (binaryOp .Add) (rCatT K) := by subst hK; exact op_catT
theorem ix_list' (hK : X.K = K) : IxR X (rIxL K) := by subst hK; exact ix_list
theorem ix_tup' (hK : X.K = K) : IxR X (rIxT K) := by subst hK; exact ix_tup
theorem ix_seq' (hK : X.K = K) : IxR X (rIx K) := by subst hK; exact ix_seq
theorem sl_list' (hK : X.K = K) : SlR X (rSlL K) := by subst hK; exact sl_list
theorem sl_tup' (hK : X.K = K) : SlR X (rSlT K) := by subst hK; exact sl_tup
theorem call_isi' (hK : X.K = K) : CallR X (.builtin "isinstance") (rIsi K) := by subst hK; exact call_isi
theorem call_len_seq' (hK : X.K = K) : CallR X (.builtin "len") (fun xs H Q => ∃ p ys, xs = [V.ref p] ∧ (SqL K H p ys ∨ SqT K H p ys) ∧ Q (.int ys.length) H) := by subst hK; exact call_len_seq
theorem call_list_of' (hK : X.K = K) : CallR X (.type "list") (fun xs H Q => ∃ p ys, xs = [V.ref p] ∧ (SqL K H p ys ∨ SqT K H p ys) ∧ ∀ l, H l = none → Q (.ref l) (upd H l (.lst ys))) := by subst hK; exact call_list_of
theorem call_tuple_of' (hK : X.K = K) : CallR X (.type "tuple") (fun xs H Q => ∃ p ys, xs = [V.ref p] ∧ ((SqL K H p ys ∧ ∀ l, H l = none → Q (.ref l) (upd H l (.tup ys))) ∨ (SqT K H p ys ∧ Q (.ref p) H))) := by subst hK; exact call_tuple_of
theorem cr_sum' (hK : X.K = K) (hc : X.calm = true) : CallR X (.builtin "sum") (rSum K) := by subst hK; exact cr_sum hc
theorem cr_max' (hK : X.K = K) (hc : X.calm = true) : CallR X (.builtin "max") (rMax K) := by subst hK; exact cr_max hc
theorem cr_min' (hK : X.K = K) (hc : X.calm = true) : CallR X (.builtin "min") (rMin K) := by subst hK; exact cr_min hc
theorem cr_any' (hK : X.K = K) (hc : X.calm = true) : CallR X (.builtin "any") (rAny K) := by subst hK; exact cr_any hc
theorem cr_all' (hK : X.K = K) (hc : X.calm = true) : CallR X (.builtin "all") (rAll K) := by subst hK; exact cr_all hc
theorem cr_sorted' (hK : X.K = K) : CallR X (.builtin "sorted") (rSorted K) := by subst hK; exact cr_sorted
theorem call_dictP' (hK : X.K = K) (hc : X.calm = true) : CallR X (.type "dict") (fun xs H Q => ∃ (a : Addr) (ps : List Addr) (kvs : List (Key × V)), xs = [.ref a] ∧ SqL K H a (ps.map V.ref) ∧ Paired (fun p kv => SqT K H p [kV kv.1, kv.2]) ps kvs ∧ ∀ p, H p = none → Q (.ref p) (upd H p (.dK (mergeK [] kvs)))) := by subst hK; exact call_dictP hc
theorem cr_range1 : CallR X (.type "range") (fun vs H Q => ∃ j, vs = [V.int j] ∧ ∀ p, H p = none → Q (.ref p) (upd H p (.rng 0 j))) := by
  intro pins s σ H vs us Q I r h
  obtain ⟨j, rfl, q⟩ := h
  cases r with
  | cons r rr =>
    cases rr
    obtain ⟨t, rfl⟩ := r
    refine call_range_1 ⟨.ref s.heap.objs.size, upd H s.heap.objs.size (.rng 0 j), I.laid (fun b o e => Heap.get?_push_of_some _ e) (Nat.le_refl _) ?_, rfl, q _ (I.hok.fresh (Nat.le_refl _))⟩
    exact ⟨_, _, _, Heap.get?_push_size _ rfl⟩
theorem ew_rng1 {K : PySem.W.Frag} {ρ : PR} {c : List Ob} {Q : PQ} {tl : TA} (h : AW K tl ρ c fun ps c1 => ∃ j : Int, ps = [.int j] ∧ Q (.rng 0 j) c1) : EW K (tCB (fun vs H Q => ∃ j, vs = [V.int j] ∧ ∀ p, H p = none → Q (.ref p) (upd H p (.rng 0 j))) tl) ρ c Q :=
  ew_cb2 (h.mono fun ps c1 ⟨j, ep, q⟩ vs H1 as1 F1 w1 r1 Q' k => by
    subst ep
    have e := Reps.ints (ns := [j]) r1
    subst e
    refine ⟨j, rfl, fun l hl => ?_⟩
    obtain ⟨w2, x2⟩ := w1.alloc hl (.rng 0 j)
    exact k _ _ _ _ _ c1 q w2 x2 (.rng upd_same))
theorem pi_list' (hK : X.K = K) (he : PE X e te) : PI X tg e (iList K te) := by subst hK; exact pi_list he
theorem pi_tup' (hK : X.K = K) (he : PE X e te) : PI X tg e (iTup K te) := by subst hK; exact pi_tup he
theorem pi_zip' {p pos tpos : Pos} {elts : List Expr} {kk : Nat} (hK : X.K = K) (hg : Gl X "zip") (hm : X.mg "zip" = none) (ha : PA X [a, b] ta) (hs : starEach [a, b] X.env = (false, eval a X.env) :: starEach [b] X.env := by rfl) (hpl : (backTo pos (starEach [b] X.env)).any (·.1) = false := by rfl) :
    PI X (.Tuple elts kk tpos) (.Call (.Name "zip" p) [a, b] [] pos) (iZip K ta) := by subst hK; exact pi_zip hg hm ha hs hpl
theorem pi_enum' {p pos tpos : Pos} {elts : List Expr} {kk : Nat} (hK : X.K = K) (hg : Gl X "enumerate") (hm : X.mg "enumerate" = none) (ha : PA X [e] ta) (hs : starEach [e] X.env = (false, eval e X.env) :: starEach [] X.env := by rfl) :
    PI X (.Tuple elts kk tpos) (.Call (.Name "enumerate" p) [e] [] pos) (iEnum K ta) := by subst hK; exact pi_enum hg hm ha hs
theorem pg_tup' {k n : Nat} {t : TGs} {pos : Pos} (hK : X.K = K) (hc : X.calm = true) (h : PGs X es t) (hn : (assignEach es X.env).length = n := by rfl) (hst : (assignEach es X.env).findIdx? (·.1) = none := by rfl) : PG X (.Tuple es k pos) (gTup K n t) := by subst hK; exact pg_tup hc h hn hst
theorem pe_bm' {name : Str} {T id : String} {apos cpos : Pos} {r : V → List V → Hp → VK → Prop} (hK : X.K = K) (pa : PlainAttrs T) (slot : Slot T name id) (hty : typeOf (.builtin id) = pure (.type "method_descriptor")) (hm : MtR X id r) (ho : PE X o to) (ha : PA X (e :: es) t)
    (hbase : attributeBase o name X.env (eval o X.env) = eval o X.env := by rfl)
    (hfew : ((backTo cpos (starEach (e :: es) X.env)).all (fun x => !x.1) && (backToKw cpos (keywordEach [] X.env)).all (fun x => x.1.isSome)
      && decide ((e :: es).length + ([] : List Keyword).length + (if ([] : List Keyword).isEmpty then 0 else 1) < 30)) = true := by rfl)
    (hline : (apos.endLine == cpos.line) = true := by rfl) (hs : starEach (e :: es) X.env = (false, eval e X.env) :: starEach es X.env := by rfl) (hplain : (backTo cpos (starEach es X.env)).any (·.1) = false := by rfl) :
    PE X (.Call (.Attribute o name apos) (e :: es) [] cpos) (tBM K T r to t) := by subst hK; exact pe_bm pa slot hty hm ho ha hbase hfew hline hs hplain
end
end PL

set_option Elab.async false
set_option linter.all false
set_option maxRecDepth 100000
set_option maxHeartbeats 2000000
namespace PL
open PySem PySem.Spec PyProof.Rows L2 Evl
/-! ### == of lists and tuples of ints -/
theorem toDs_ints : ∀ ns : List Int, toDs (ns.map P.int) = ns.map PyData.int
  | [] => rfl
  | n :: ns => by
    show P.toD (.int n) :: toDs (ns.map P.int) = _
    rw [toDs_ints ns]; rfl
theorem datas_ints : ∀ ns : List Int, datas (ns.map P.int) = true
  | [] => rfl
  | n :: ns => by
    show (P.data (.int n) && datas (ns.map P.int)) = true
    rw [datas_ints ns]; rfl
theorem canLay_ints : ∀ ns : List Int, PyData.canLayAll0 (ns.map PyData.int) = true
  | [] => rfl
  | n :: ns => by
    show (PyData.canLay0 (.int n) && PyData.canLayAll0 (ns.map PyData.int)) = true
    rw [canLay_ints ns]; rfl
theorem depth_ints : ∀ ns : List Int, PyData.depthAll (ns.map PyData.int) = 0
  | [] => rfl
  | n :: ns => by
    show max (PyData.depth (.int n)) (PyData.depthAll (ns.map PyData.int)) = 0
    rw [depth_ints ns]; rfl
theorem data_lst (ns : List Int) : (P.lst (ns.map P.int)).data = true := datas_ints ns
theorem data_tup (ns : List Int) : (P.tup (ns.map P.int)).data = true := datas_ints ns
theorem shaped_lst (ns : List Int) : SeqAt.shaped (P.lst (ns.map P.int)).toD = true := by
  show (PyData.canLayAll0 (toDs (ns.map P.int)) && decide (PyData.depthAll (toDs (ns.map P.int)) + 1 ≤ 64)) = true
  rw [toDs_ints, canLay_ints, depth_ints]; rfl
theorem shaped_tup (ns : List Int) : SeqAt.shaped (P.tup (ns.map P.int)).toD = true := by
  show (PyData.canLayAll0 (toDs (ns.map P.int)) && decide (PyData.depthAll (toDs (ns.map P.int)) + 1 ≤ 64)) = true
  rw [toDs_ints, canLay_ints, depth_ints]; rfl
theorem eqvAll_ints : ∀ ns ms : List Int, PyData.eqvAll (ns.map PyData.int) (ms.map PyData.int) = decide (ns = ms)
  | [], [] => rfl
  | [], _ :: _ => rfl
  | _ :: _, [] => rfl
  | n :: ns, m :: ms => by
    show ((n == m) && PyData.eqvAll (ns.map PyData.int) (ms.map PyData.int)) = _
    rw [eqvAll_ints ns ms]
    by_cases h : n = m
    · subst h
      rw [beq_self_eq_true, Bool.true_and]
      by_cases g : ns = ms
      · subst g; rw [decide_eq_true rfl, decide_eq_true rfl]
      · rw [decide_eq_false g, decide_eq_false fun z => g (List.cons.inj z).2]
    · rw [beq_eq_false_iff_ne.mpr h, Bool.false_and, decide_eq_false fun z => h (List.cons.inj z).1]
theorem eqv_lst (ns ms : List Int) : PyData.eqv (P.lst (ns.map P.int)).toD (P.lst (ms.map P.int)).toD = decide (ns = ms) := by
  show PyData.eqvAll (toDs (ns.map P.int)) (toDs (ms.map P.int)) = _
  rw [toDs_ints, toDs_ints, eqvAll_ints]
theorem eqv_tup (ns ms : List Int) : PyData.eqv (P.tup (ns.map P.int)).toD (P.tup (ms.map P.int)).toD = decide (ns = ms) := by
  show PyData.eqvAll (toDs (ns.map P.int)) (toDs (ms.map P.int)) = _
  rw [toDs_ints, toDs_ints, eqvAll_ints]
def rangeI (lo : Int) (n : Nat) : List Int := (List.range n).map fun (i : Nat) => lo + (i : Int)
theorem rangeP_ints (lo : Int) (n : Nat) : rangeP lo n = (rangeI lo n).map P.int := by
  unfold rangeP rangeI
  rw [List.map_map]; rfl
theorem data_rng (lo : Int) (n : Nat) : (P.lst (rangeP lo n)).data = true := by rw [rangeP_ints]; exact data_lst _
theorem shaped_rng (lo : Int) (n : Nat) : SeqAt.shaped (P.lst (rangeP lo n)).toD = true := by rw [rangeP_ints]; exact shaped_lst _
/-- two sorted lists of the same ints -/
theorem same_sorted {z1 z2 n1 n2 : List Int} (p1 : z1.Perm n1) (w1 : z1.Pairwise (· ≤ ·)) (p2 : z2.Perm n2) (w2 : z2.Pairwise (· ≤ ·)) (h : n1.Perm n2) : z1 = z2 :=
  (p1.trans (h.trans p2.symm)).eq_of_pairwise (fun x y _ _ h1 h2 => Int.le_antisymm h1 h2) w1 w2
end PL

set_option Elab.async false
set_option linter.all false
set_option maxRecDepth 100000
set_option maxHeartbeats 2000000
namespace PL
open PySem PyProof.Rows L2
/-- lists and tuples, as what is walked -/
def SIt : Bool → Heap → Addr → Addr → Nat → Prop
  | true => Heap.IsListIter
  | false => Heap.IsTupleIter
def SIs : Bool → Heap → Addr → Array Value → Prop
  | true => Heap.IsList
  | false => Heap.IsTuple
section
variable {prog : Program} {w : World} {A : Around} {E : Value → Shared → Prop} {s : Shared} {k k2 : Bool}
theorem SIt.extBut {h h' : Heap} {a b l : Addr} {i : Nat} (x : SIt k h a l i) (e : Heap.ExtBut b h h') (n : a ≠ b) : SIt k h' a l i := by
  cases k
  · exact Heap.IsTupleIter.extBut x e n
  · exact Heap.IsListIter.extBut x e n
theorem SIt.at {h h' : Heap} {a l : Addr} {i : Nat} (x : SIt k h a l i) (e : ∀ o, h.get? a = some o → h'.get? a = some o) : SIt k h' a l i := by
  cases k
  · exact Heap.IsTupleIter.at x e
  · exact Heap.IsListIter.at x e
theorem SIs.extBut {h h' : Heap} {a b : Addr} {items : Array Value} (x : SIs k h a items) (e : Heap.ExtBut b h h') (n : a ≠ b) : SIs k h' a items := by
  cases k
  · exact Heap.IsTuple.extBut x e n
  · exact Heap.IsList.extBut x e n
theorem next_item {it l : Addr} {i : Nat} {items : Array Value} {x : Value} {Q : Value → Shared → Prop} (a : SIt k s.heap it l i) (b : SIs k s.heap l items) (c : items[i]? = some x)
    (q : ∀ h' : Heap, SIt k h' it l (i + 1) → Heap.SameBut it s.heap h' → Q x { heap := h', gens := s.gens, drawn := s.drawn, toks := s.toks, os := s.os }) : wpAny (model prog w) A (Builtin.SmallTypes.nextOf (.ref it)) Q E s := by
  cases k
  · exact RZ.nextOf_tuple_item a b c q
  · exact wpAny_nextOf_list_item a b c q
theorem next_end {it l : Addr} {i : Nat} {items : Array Value} {Q : Value → Shared → Prop} (hd : A.handled = none) (a : SIt k s.heap it l i) (b : SIs k s.heap l items) (c : items[i]? = none)
    (q : ∀ (h' : Heap) (e : Addr), Heap.ExtBut it s.heap h' → (∃ o, h'.get? e = some o ∧ o.cls = .type "StopIteration") → E (.ref e) { heap := h', gens := s.gens, drawn := s.drawn, toks := s.toks, os := s.os }) : wpAny (model prog w) A (Builtin.SmallTypes.nextOf (.ref it)) Q E s := by
  cases k
  · exact RZ.nextOf_tuple_end hd a b c q
  · exact wpAny_nextOf_list_end hd a b c q
theorem zn_item {z TI TO i1 i2 l1 l2 : Addr} {n1 n2 : Nat} {xs ys : Array Value} {x y a b : Value} {Q : Value → Shared → Prop} (ap : ZipApart z TI TO i1 i2 l1 l2)
    (hz : IsZip s.heap z TI TO .none) (hI : IsPair s.heap TI (.ref i1) (.ref i2)) (hO : IsPair s.heap TO a b) (h1 : SIt k s.heap i1 l1 n1) (h2 : SIt k2 s.heap i2 l2 n2) (hx : SIs k s.heap l1 xs) (hy : SIs k2 s.heap l2 ys) (ex : xs[n1]? = some x) (ey : ys[n2]? = some y)
    (q : ∀ h' : Heap, IsZip h' z TI TO (rawInt (s.heap.objs.size : Nat)) → IsPair h' TO x y → SIt k h' i1 l1 (n1 + 1) → SIt k2 h' i2 l2 (n2 + 1) → IsPair h' s.heap.objs.size x y → h'.objs.size = s.heap.objs.size + 1 →
      (∀ (c : Addr) (o : Obj), c ≠ z → c ≠ TO → c ≠ i1 → c ≠ i2 → s.heap.get? c = some o → h'.get? c = some o) → Q (.ref s.heap.objs.size) { heap := h', gens := s.gens, drawn := s.drawn, toks := s.toks, os := s.os }) :
    wpAny (model prog w) A (Builtin.«zip.__next__» { pos := [.ref z] }) (fun fin s' => ∃ v, fin = .done (.ret v) ∧ Q v s') E s := by
  unfold Builtin.«zip.__next__»
  refine wpAny_bind (wpAny_of_eq (a := (.ref z, [])) rfl ?_)
  refine wpAny_bind (wpAny_field hz rfl rfl ?_)
  refine wpAny_bind (wpAny_field hz rfl rfl ?_)
  refine wpAny_bind (wpAny_seqItems hI rfl ?_)
  dsimp only
  refine wpAny_ite_false rfl ?_
  unfold Builtin.SmallTypes.ownedTupleIsFree
  refine wpAny_bind (wpAny_bind (wpAny_field hz rfl rfl (wpAny_pure ?_)))
  refine wpAny_ite_true rfl ?_
  refine wpAny_bind (wpAny_rule ?_)
  refine wpAny_bind (wpAny_field hz rfl rfl ?_)
  refine wpAny_bind (wpAny_setField_rec hz (by show 0 < 5; decide) fun h' g1 b1 => ?_)
  refine wpAny_bind ?_
  rw [show (#[Value.ref i1, Value.ref i2] : Array Value).toList.zipIdx = [(Value.ref i1, 0), (Value.ref i2, 1)] from rfl]
  rw [List.forIn_cons]
  have e1 := b1.extBut
  refine wpAny_bind (wpAny_bind (wpAny_onRaise ?_))
  refine wpAny_bind (next_item (h1.extBut e1 ap.i1z) (hx.extBut e1 ap.l1z) ex fun h'2 j1 b2 => ?_)
  have e2 := b2.extBut
  have hO' : IsPair h'2 TO a b := e2 _ _ ap.TOi1 (e1 _ _ ap.TOz hO)
  refine wpAny_pure (wpAny_bind (wpAny_seqItems hO' rfl ?_))
  refine wpAny_bind (wpAny_updateSeq_pair hO' fun h'3 g3 b3 => ?_)
  have e3 := b3.extBut
  refine wpAny_bind (wpAny_letGo (wpAny_pure ?_))
  dsimp only
  rw [List.forIn_cons]
  refine wpAny_bind (wpAny_bind (wpAny_onRaise ?_))
  have h2' := (((h2.extBut e1 ap.i2z).extBut e2 ap.i12.symm).extBut e3 ap.TOi2.symm)
  have hy' := (((hy.extBut e1 ap.l2z).extBut e2 ap.l2i1).extBut e3 ap.l2TO)
  refine wpAny_bind (next_item h2' hy' ey fun h'4 j4 b4 => ?_)
  have e4 := b4.extBut
  have hO2 : IsPair h'4 TO x b := e4 _ _ ap.TOi2 g3
  refine wpAny_pure (wpAny_bind (wpAny_seqItems hO2 rfl ?_))
  refine wpAny_bind (wpAny_updateSeq_pair hO2 fun h'5 g5 b5 => ?_)
  have e5 := b5.extBut
  have hO3 : IsPair h'5 TO x y := g5
  refine wpAny_bind (wpAny_letGo (wpAny_pure ?_))
  dsimp only
  rw [List.forIn_nil]
  refine wpAny_pure ?_
  refine wpAny_bind (wpAny_seqItems hO3 rfl ?_)
  refine wpAny_bind (wpAny_newTuple ?_ (by show 2 ≤ sizeLine; rw [sizeLine_eq]; decide))
  have hz5 := e5 _ _ ap.TOz.symm (e4 _ _ ap.i2z.symm (e3 _ _ ap.TOz.symm (e2 _ _ ap.i1z.symm g1)))
  unfold Builtin.SmallTypes.ownedTupleHandOut
  have sz : h'5.objs.size = s.heap.objs.size := b5.1.trans (b4.1.trans (b3.1.trans (b2.1.trans b1.1)))
  have hp : (h'5.push { cls := .type "tuple", data := .seq #[x, y].toList.toArray }).get? z = _ := Heap.get?_push_of_some _ hz5
  refine wpAny_bind ?_
  dsimp only
  refine wpAny_bind (wpAny_setField_rec hp (by show 0 < 5; decide) fun h6 g6 b6 => ?_)
  refine wpAny_setField_rec g6 (by show 1 < 5; decide) fun h7 g7 b7 => ?_
  have e6 := b6.extBut
  have e7 := b7.extBut
  have eP : ∀ (c : Addr) (o : Obj), h'5.get? c = some o → (h'5.push { cls := .type "tuple", data := .seq #[x, y].toList.toArray }).get? c = some o := fun c o h => Heap.get?_push_of_some _ h
  have lt : ∀ {c : Addr} {o : Obj}, s.heap.get? c = some o → c < s.heap.objs.size := fun h => Heap.lt_size h
  have new : (h'5.push { cls := .type "tuple", data := .seq #[x, y].toList.toArray }).get? h'5.objs.size = some { cls := .type "tuple", data := .seq #[x, y].toList.toArray } := Heap.get?_push_size _ rfl
  have nz : h'5.objs.size ≠ z := fun h => absurd (lt hz) (by rw [← h, sz]; exact Nat.lt_irrefl _)
  have new7 : h7.get? h'5.objs.size = some { cls := .type "tuple", data := .seq #[x, y].toList.toArray } := e7 _ _ nz (e6 _ _ nz new)
  refine wpAny_pure ⟨_, rfl, ?_⟩
  have step : ∀ (c : Addr) (o : Obj), c ≠ z → h'5.get? c = some o → h7.get? c = some o := fun c o hc h => e7 _ _ hc (e6 _ _ hc (eP _ _ h))
  have e2' : Heap.ExtBut i1 h' h'2 := e2
  have e3' : Heap.ExtBut TO h'2 h'3 := e3
  have e4' : Heap.ExtBut i2 h'3 h'4 := e4
  have e5' : Heap.ExtBut TO h'4 h'5 := e5
  show Q (.ref h'5.objs.size) _
  rw [sz]
  refine q h7 ?_ (step _ _ ap.TOz hO3) ?_ ?_ ?_ ?_ ?_
  · rw [← sz]; exact g7
  · exact (((j1.extBut e3' ap.TOi1.symm).extBut e4' ap.i12).extBut e5' ap.TOi1.symm).at fun o h => step _ _ ap.i1z h
  · exact (j4.extBut e5' ap.TOi2.symm).at fun o h => step _ _ ap.i2z h
  · rw [← sz]; exact new7
  · have z7 : h7.objs.size = h6.objs.size := b7.1
    have z6 : h6.objs.size = (h'5.push { cls := .type "tuple", data := .seq #[x, y].toList.toArray }).objs.size := b6.1
    rw [z7, z6, Heap.size_push, sz]
  · intro c o c1 c2 c3 c4 h
    exact step _ _ c1 (e5' _ _ c2 (e4' _ _ c4 (e3' _ _ c2 (e2' _ _ c3 (e1 _ _ c1 h)))))
theorem zn_end {z TI TO i1 i2 l1 l2 : Addr} {n1 n2 : Nat} {xs ys : Array Value} {a b : Value} {Q : Fin → Shared → Prop} (hd : A.handled = none) (ap : ZipApart z TI TO i1 i2 l1 l2)
    (hz : IsZip s.heap z TI TO .none) (hI : IsPair s.heap TI (.ref i1) (.ref i2)) (hO : IsPair s.heap TO a b) (h1 : SIt k s.heap i1 l1 n1) (h2 : SIt k2 s.heap i2 l2 n2) (hx : SIs k s.heap l1 xs) (hy : SIs k2 s.heap l2 ys) (ex : xs[n1]? = none ∨ ys[n2]? = none)
    (q : ∀ (h' : Heap) (e : Addr), (∀ (c : Addr) (o : Obj), c ≠ z → c ≠ TO → c ≠ i1 → c ≠ i2 → s.heap.get? c = some o → h'.get? c = some o) → (∃ o, h'.get? e = some o ∧ o.cls = .type "StopIteration") → E (.ref e) { heap := h', gens := s.gens, drawn := s.drawn, toks := s.toks, os := s.os }) :
    wpAny (model prog w) A (Builtin.«zip.__next__» { pos := [.ref z] }) Q E s := by
  unfold Builtin.«zip.__next__»
  refine wpAny_bind (wpAny_of_eq (a := (.ref z, [])) rfl ?_)
  refine wpAny_bind (wpAny_field hz rfl rfl ?_)
  refine wpAny_bind (wpAny_field hz rfl rfl ?_)
  refine wpAny_bind (wpAny_seqItems hI rfl ?_)
  refine wpAny_ite_false rfl ?_
  unfold Builtin.SmallTypes.ownedTupleIsFree
  refine wpAny_bind (wpAny_bind (wpAny_field hz rfl rfl (wpAny_pure ?_)))
  refine wpAny_ite_true rfl ?_
  refine wpAny_bind (wpAny_rule ?_)
  refine wpAny_bind (wpAny_field hz rfl rfl ?_)
  dsimp only
  refine wpAny_bind (wpAny_setField_rec hz (by show 0 < 5; decide) fun h' g1 b1 => ?_)
  refine wpAny_bind ?_
  rw [show (#[Value.ref i1, Value.ref i2] : Array Value).toList.zipIdx = [(Value.ref i1, 0), (Value.ref i2, 1)] from rfl]
  rw [List.forIn_cons]
  have e1 := b1.extBut
  refine wpAny_bind (wpAny_bind (wpAny_onRaise ?_))
  cases c1 : xs[n1]? with
  | none =>
    refine wpAny_bind (next_end hd (h1.extBut e1 ap.i1z) (hx.extBut e1 ap.l1z) c1 fun h'2 e b2 hs => ?_)
    have b2' : Heap.ExtBut i1 h' h'2 := b2
    have gz := b2' _ _ ap.i1z.symm g1
    refine wpAny_setField_rec gz (by show 0 < 5; decide) fun h3 g3 b3 => ?_
    have e3 := b3.extBut
    obtain ⟨o, ho, hc⟩ := hs
    have ne : e ≠ z := fun he => by
      subst he
      rw [gz] at ho; cases ho
      exact absurd (Value.type.inj hc) (by decide)
    exact q h3 e (fun c o d1 d2 d3 d4 h => e3 _ _ d1 (b2' _ _ d3 (e1 _ _ d1 h))) ⟨o, e3 _ _ ne ho, hc⟩
  | some x =>
    have c2 : ys[n2]? = none := ex.resolve_left (by rw [c1]; exact fun h => by cases h)
    refine wpAny_bind (next_item (h1.extBut e1 ap.i1z) (hx.extBut e1 ap.l1z) c1 fun h'2 j1 b2 => ?_)
    have e2 := b2.extBut
    have hO' : IsPair h'2 TO a b := e2 _ _ ap.TOi1 (e1 _ _ ap.TOz hO)
    refine wpAny_pure (wpAny_bind (wpAny_seqItems hO' rfl ?_))
    refine wpAny_bind (wpAny_updateSeq_pair hO' fun h'3 g3 b3 => ?_)
    have e3 := b3.extBut
    refine wpAny_bind (wpAny_letGo (wpAny_pure ?_))
    dsimp only
    rw [List.forIn_cons]
    refine wpAny_bind (wpAny_bind (wpAny_onRaise ?_))
    have h2' := (((h2.extBut e1 ap.i2z).extBut e2 ap.i12.symm).extBut e3 ap.TOi2.symm)
    have hy' := (((hy.extBut e1 ap.l2z).extBut e2 ap.l2i1).extBut e3 ap.l2TO)
    refine wpAny_bind (next_end hd h2' hy' c2 fun h'4 e b4 hs => ?_)
    have e2' : Heap.ExtBut i1 h' h'2 := e2
    have e3' : Heap.ExtBut TO h'2 h'3 := e3
    have e4' : Heap.ExtBut i2 h'3 h'4 := b4
    have gz := e4' _ _ ap.i2z.symm (e3' _ _ ap.TOz.symm (e2' _ _ ap.i1z.symm g1))
    refine wpAny_setField_rec gz (by show 0 < 5; decide) fun h5 g5 b5 => ?_
    have e5 := b5.extBut
    obtain ⟨o, ho, hc⟩ := hs
    have ne : e ≠ z := fun he => by
      subst he
      rw [gz] at ho; cases ho
      exact absurd (Value.type.inj hc) (by decide)
    exact q h5 e (fun c o d1 d2 d3 d4 h => e5 _ _ d1 (e4' _ _ d4 (e3' _ _ d2 (e2' _ _ d3 (e1 _ _ d1 h))))) ⟨o, e5 _ _ ne ho, hc⟩
theorem pn_item {z TI TO i1 i2 l1 l2 : Addr} {n1 n2 : Nat} {xs ys : Array Value} {x y a b : Value} {Q : Option Value → Shared → Prop} (ap : ZipApart z TI TO i1 i2 l1 l2)
    (hz : IsZip s.heap z TI TO .none) (hI : IsPair s.heap TI (.ref i1) (.ref i2)) (hO : IsPair s.heap TO a b) (h1 : SIt k s.heap i1 l1 n1) (h2 : SIt k2 s.heap i2 l2 n2) (hx : SIs k s.heap l1 xs) (hy : SIs k2 s.heap l2 ys) (ex : xs[n1]? = some x) (ey : ys[n2]? = some y)
    (q : ∀ h' : Heap, IsZip h' z TI TO (rawInt (s.heap.objs.size : Nat)) → IsPair h' TO x y → SIt k h' i1 l1 (n1 + 1) → SIt k2 h' i2 l2 (n2 + 1) → IsPair h' s.heap.objs.size x y → h'.objs.size = s.heap.objs.size + 1 →
      (∀ (c : Addr) (o : Obj), c ≠ z → c ≠ TO → c ≠ i1 → c ≠ i2 → s.heap.get? c = some o → h'.get? c = some o) → Q (some (.ref s.heap.objs.size)) { heap := h', gens := s.gens, drawn := s.drawn, toks := s.toks, os := s.os }) :
    wpAny (model prog w) A (pyNext (.ref z)) Q E s := by
  unfold pyNext
  have ty : s.TypeIs (.ref z) "zip" := ⟨_, hz, rfl⟩
  refine wpAny_bind (wpAny_attempt (wpAny_callSpecial?_slot ty F.slot_zip_next (wpAny_call_entry F.slot_zip_next ty F.entry_zip_next (zn_item ap hz hI hO h1 h2 hx hy ex ey ?_) (F.args_zip_next_1 _))))
  intro h' a1 a2 a3 a4 a5 a6 a7
  exact wpAny_pure (q h' a1 a2 a3 a4 a5 a6 a7)
theorem pn_end {z TI TO i1 i2 l1 l2 : Addr} {n1 n2 : Nat} {xs ys : Array Value} {a b : Value} {Q : Option Value → Shared → Prop} (hd : A.handled = none) (ap : ZipApart z TI TO i1 i2 l1 l2)
    (hz : IsZip s.heap z TI TO .none) (hI : IsPair s.heap TI (.ref i1) (.ref i2)) (hO : IsPair s.heap TO a b) (h1 : SIt k s.heap i1 l1 n1) (h2 : SIt k2 s.heap i2 l2 n2) (hx : SIs k s.heap l1 xs) (hy : SIs k2 s.heap l2 ys) (ex : xs[n1]? = none ∨ ys[n2]? = none)
    (q : ∀ h' : Heap, (∀ (c : Addr) (o : Obj), c ≠ z → c ≠ TO → c ≠ i1 → c ≠ i2 → s.heap.get? c = some o → h'.get? c = some o) → Q none { heap := h', gens := s.gens, drawn := s.drawn, toks := s.toks, os := s.os }) :
    wpAny (model prog w) A (pyNext (.ref z)) Q E s := by
  unfold pyNext
  have ty : s.TypeIs (.ref z) "zip" := ⟨_, hz, rfl⟩
  refine wpAny_bind (wpAny_attempt (wpAny_callSpecial?_slot ty F.slot_zip_next (wpAny_call_entry F.slot_zip_next ty F.entry_zip_next (zn_end (A := A.in1) hd ap hz hI hO h1 h2 hx hy ex ?_) (F.args_zip_next_1 _))))
  intro h' e a1 ⟨o, ho, hc⟩
  have ty : Shared.TypeIs { heap := h', gens := s.gens, drawn := s.drawn, toks := s.toks, os := s.os } (.ref e) "StopIteration" := ⟨o, ho, hc⟩
  refine wpAny_bind (wpAny_isInstance ty isSubtype_stop ?_)
  exact wpAny_pure (q h' a1)
end
/-- a list or a tuple among what is tracked or written -/
def SqK (K : PySem.W.Frag) : Bool → Hp → Addr → List V → Prop
  | true => SqL K
  | false => SqT K
theorem SqK.at {X : Cx} {pins : List (Addr × Obj)} {σ : L2.St} {H : Hp} {s : Shared} {a : Addr} {xs : List V} {k : Bool} (I : Inv X pins σ H s) (h : SqK X.K k H a xs) : ∃ its : List Value, Vals xs its ∧ SIs k s.heap a its.toArray := by
  cases k
  · obtain ⟨its, r, i, _⟩ := I.tuple h; exact ⟨its, r, i⟩
  · obtain ⟨its, r, i, _⟩ := I.list h; exact ⟨its, r, i.isList⟩
theorem SqK.inj {X : Cx} {pins : List (Addr × Obj)} {σ : L2.St} {H : Hp} {s : Shared} {a : Addr} {xs ys : List V} {k : Bool} (I : Inv X pins σ H s) (h : SqK X.K k H a xs) (g : SqK X.K k H a ys) : xs = ys := by
  cases k
  · exact I.tuple_inj h g
  · exact I.list_inj h g
theorem SIs.lt {h : Heap} {a : Addr} {items : Array Value} {k : Bool} (x : SIs k h a items) : a < h.objs.size := by
  cases k
  · obtain ⟨o, e, _⟩ := x; exact Heap.lt_size e
  · obtain ⟨o, e, _⟩ := x; exact Heap.lt_size e
def Itz2 (K : PySem.W.Frag) (k k2 : Bool) (a b : Addr) : It where
  go := fun i H => ∃ xs ys x y, SqK K k H a xs ∧ SqK K k2 H b ys ∧ xs[i]? = some x ∧ ys[i]? = some y
  yld := fun i H v H' => ∃ T x y, v = .ref T ∧ H T = none ∧ H' = upd H T (.tup [x, y]) ∧ (∀ xs, SqK K k H a xs → xs[i]? = some x) ∧ ∀ ys, SqK K k2 H b ys → ys[i]? = some y
  stop := fun i H => ∃ xs ys, SqK K k H a xs ∧ SqK K k2 H b ys ∧ (xs.length ≤ i ∨ ys.length ≤ i)
theorem turn_zip2 {P : Program} {w : World} {K : PySem.W.Frag} {elts : List Expr} {kk : Nat} {tpos : Pos} {k k2 : Bool} {a b z TI TO i1 i2 : Addr} (ap : ZipApart z TI TO i1 i2 a b) :
    Turn P w K (.Tuple elts kk tpos) (Itz2 K k k2 a b) [z, TI, TO, i1, i2] z fun i h => IsZip h z TI TO .none ∧ IsPair h TI (.ref i1) (.ref i2) ∧ (∃ x y, IsPair h TO x y) ∧ SIt k h i1 a i ∧ SIt k2 h i2 b i := by
  have cellno : ∀ {k : Bool} {h : Heap} {i l : Addr} {n : Nat}, SIt k h i l n → ∃ o, h.get? i = some o ∧ ∀ v : Option Value, o.data ≠ .cell v := fun {k h i l n} x => by
    cases k
    · obtain ⟨o, e1, e2, e3⟩ := x; exact ⟨o, e1, fun v => by rw [e3]; exact fun z => by cases z⟩
    · obtain ⟨o, e1, e2, e3⟩ := x; exact ⟨o, e1, fun v => by rw [e3]; exact fun z => by cases z⟩
  refine ⟨List.mem_cons_self, ?_, ?_, ?_, ?_, ?_⟩
  · rintro i h ⟨q1, q2, ⟨x, y, q3⟩, q4, q5⟩ b hb
    simp only [List.mem_cons, List.not_mem_nil, or_false] at hb
    rcases hb with rfl | rfl | rfl | rfl | rfl
    · exact ⟨_, q1, fun v z => by cases z⟩
    · exact ⟨_, q2, fun v z => by cases z⟩
    · exact ⟨_, q3, fun v z => by cases z⟩
    · exact cellno q4
    · exact cellno q5
  · rintro i h h' ⟨q1, q2, ⟨x, y, q3⟩, q4, q5⟩ hb
    exact ⟨hb _ (by simp) _ q1, hb _ (by simp) _ q2, ⟨x, y, hb _ (by simp) _ q3⟩, q4.at fun o => hb _ (by simp) o, q5.at fun o => hb _ (by simp) o⟩
  · rintro X rfl rfl rfl hc i pins s σ H E I fp ⟨q1, q2, ⟨x0, y0, q3⟩, q4, q5⟩ ⟨xs, ys, x, y, hx, hy, ex, ey⟩
    obtain ⟨its, r1, p1⟩ := hx.at I
    obtain ⟨its2, r2, p2⟩ := hy.at I
    obtain ⟨u, eu, ru⟩ := r1.get ex
    obtain ⟨v, ev, rv⟩ := r2.get ey
    refine pn_item ap q1 q2 q3 q4 q5 p1 p2 (by rw [List.getElem?_toArray]; exact eu) (by rw [List.getElem?_toArray]; exact ev) fun h' a1 a2 a3 a4 a5 a6 a7 => ?_
    refine ⟨_, rfl, wpAny_letOwnedTupleGo_zip a1 fun h2 b1 b2 => ?_⟩
    have e2 := b2.extBut
    have hT : H s.heap.objs.size = none := I.hok.fresh (Nat.le_refl _)
    have nz : s.heap.objs.size ≠ z := fun h => absurd (Heap.lt_size q1) (by rw [← h]; exact Nat.lt_irrefl _)
    refine ⟨.ref s.heap.objs.size, upd H s.heap.objs.size (.tup [x, y]), ?_, rfl, ⟨_, x, y, rfl, hT, rfl, fun xs' h => ?_, fun ys' h => ?_⟩, ⟨b1, ?_, ⟨u, v, ?_⟩, ?_, ?_⟩, fun b hb => ?_⟩
    · refine I.turnedNew (ch := [z, TI, TO, i1, i2]) (fun b o hb h => ?_) fp (Nat.le_refl _) ?_
      · simp only [List.mem_cons, List.not_mem_nil, or_false, not_or] at hb
        exact e2 _ _ hb.1 (a7 _ _ hb.1 hb.2.2.1 hb.2.2.2.1 hb.2.2.2.2 h)
      · simp only [L2.ObjOk]
        exact ⟨by show 2 ≤ sizeLine; rw [sizeLine_eq]; decide, [u, v], .cons ru (.cons rv .nil), _, e2 _ _ nz a5, rfl, _, rfl⟩
    · rw [SqK.inj I h hx]; exact ex
    · rw [SqK.inj I h hy]; exact ey
    · exact e2 _ _ ap.TIz (a7 _ _ ap.TIz ap.TITO ap.TIi1 ap.TIi2 q2)
    · exact e2 _ _ ap.TOz a2
    · exact a3.extBut e2 ap.i1z
    · exact a4.extBut e2 ap.i2z
    · have hf := fp b hb
      have : b ≠ s.heap.objs.size := fun h => by
        simp only [List.mem_cons, List.not_mem_nil, or_false] at hb
        have c1 := cellno q4
        have c2 := cellno q5
        obtain ⟨o1, g1, _⟩ := c1
        obtain ⟨o2, g2, _⟩ := c2
        rcases hb with rfl | rfl | rfl | rfl | rfl
        · exact absurd (Heap.lt_size q1) (by rw [h]; exact Nat.lt_irrefl _)
        · exact absurd (Heap.lt_size q2) (by rw [h]; exact Nat.lt_irrefl _)
        · exact absurd (Heap.lt_size q3) (by rw [h]; exact Nat.lt_irrefl _)
        · exact absurd (Heap.lt_size g1) (by rw [h]; exact Nat.lt_irrefl _)
        · exact absurd (Heap.lt_size g2) (by rw [h]; exact Nat.lt_irrefl _)
      rw [upd_ne this]; exact hf.1
  · rintro X rfl rfl rfl hc i pins s σ H E I fp ⟨q1, q2, ⟨x0, y0, q3⟩, q4, q5⟩ ⟨xs, ys, hx, hy, hl⟩
    obtain ⟨its, r1, p1⟩ := hx.at I
    obtain ⟨its2, r2, p2⟩ := hy.at I
    refine pn_end (I.ok.hd hc) ap q1 q2 q3 q4 q5 p1 p2 ?_ fun h' a1 => ⟨rfl, I.turnedL (ch := [z, TI, TO, i1, i2]) (fun b o hb h => ?_) fp⟩
    · have l1 := r1.length
      have l2 := r2.length
      simp only [List.getElem?_toArray]
      rcases hl with h | h
      · exact .inl (List.getElem?_eq_none (by omega))
      · exact .inr (List.getElem?_eq_none (by omega))
    · simp only [List.mem_cons, List.not_mem_nil, or_false, not_or] at hb
      exact a1 _ _ hb.1 hb.2.2.1 hb.2.2.2.1 hb.2.2.2.2 h
  · rintro A i s Q E ⟨q1, _⟩ q
    exact wpAny_pyIter_zip q1 q
def itO (k : Bool) (l : Addr) : Obj := match k with
  | true => { cls := .type "list_iterator", data := .fields #[.ref l, .int 0 0] }
  | false => { cls := .type "tuple_iterator", data := .fields #[.ref l, .int 0 0] }
section
variable {prog : Program} {w : World} {A : Around} {E : Value → Shared → Prop} {s : Shared} {k k2 : Bool}
theorem iter_k {l : Addr} {items : Array Value} {Q : Value → Shared → Prop} (h : SIs k s.heap l items) (q : Q (.ref s.heap.objs.size) { heap := s.heap.push (itO k l), gens := s.gens, drawn := s.drawn, toks := s.toks, os := s.os }) : wpAny (model prog w) A (pyIter (.ref l)) Q E s := by
  cases k
  · exact wpAny_pyIter_tuple h q
  · exact wpAny_pyIter_list h q
theorem SIt.new (h : Heap) (l : Addr) : SIt k (h.push (itO k l)) h.objs.size l 0 := by
  cases k
  · exact ⟨_, Heap.get?_push_size _ rfl, rfl, rfl⟩
  · exact ⟨_, Heap.get?_push_size _ rfl, rfl, rfl⟩
theorem SIs.push {h : Heap} {a : Addr} {items : Array Value} (x : SIs k h a items) (o : Obj) : SIs k (h.push o) a items := by
  cases k
  · exact Heap.IsTuple.push x o
  · exact Heap.IsList.push x o
abbrev zH (k k2 : Bool) (h : Heap) (l1 l2 : Addr) : Heap := ((((h.push (itO k l1)).push (itO k2 l2)).push { cls := .type "tuple", data := .seq #[.ref h.objs.size, .ref (h.push (itO k l1)).objs.size] }).push { cls := .type "tuple", data := .seq #[.none, .none] }).push
  { cls := .type "zip", data := .fields #[.none, .bool false, .bool false, .ref ((h.push (itO k l1)).push (itO k2 l2)).objs.size, .ref (((h.push (itO k l1)).push (itO k2 l2)).push { cls := .type "tuple", data := .seq #[.ref h.objs.size, .ref (h.push (itO k l1)).objs.size] }).objs.size] }
theorem meets_zip2 (l1 l2 : Addr) (xs ys : Array Value) : Meets (Builtin.«zip.__new__» { pos := [.type "zip", .ref l1, .ref l2] }) fun _ R s =>
    SIs k s.heap l1 xs ∧ SIs k2 s.heap l2 ys ∧ R (.ok (.ret (.ref ((((s.heap.push (itO k l1)).push (itO k2 l2)).push { cls := .type "tuple", data := .seq #[.ref s.heap.objs.size, .ref (s.heap.push (itO k l1)).objs.size] }).push { cls := .type "tuple", data := .seq #[.none, .none] }).objs.size))) { heap := zH k k2 s.heap l1 l2, gens := s.gens, drawn := s.drawn, toks := s.toks, os := s.os } := by
  refine Meets.of_wp fun prog w A R s ⟨h1, h2, h⟩ => ?_
  cases s with | mk hp g d tk os =>
  have h2' := h2.push (itO k l1)
  unfold Builtin.«zip.__new__»
  refine wpAny_bind ?_
  unfold Builtin.SmallTypes.newClass
  refine wpAny_bind (wpAny_pure (wpAny_ite_false rfl (wpAny_bind (wpAny_of_eq sub_zip (wpAny_ite_false rfl (wpAny_pure ?_))))))
  refine wpAny_ite_false rfl ?_
  dsimp only
  refine wpAny_bind ?_
  unfold Builtin.SmallTypes.iterAll
  refine wpAny_bind ?_
  rw [List.forIn_cons]
  refine wpAny_bind (wpAny_bind (wpAny_holding (iter_k h1 (wpAny_pure ?_))))
  dsimp only
  rw [List.forIn_cons]
  refine wpAny_bind (wpAny_bind (wpAny_holding (iter_k h2' (wpAny_pure ?_))))
  dsimp only
  rw [List.forIn_nil]
  refine wpAny_pure (wpAny_pure ?_)
  refine wpAny_bind (wpAny_newTuple ?_ (by show 2 ≤ sizeLine; rw [sizeLine_eq]; decide))
  refine wpAny_bind (wpAny_newTuple ?_ (by show 2 ≤ sizeLine; rw [sizeLine_eq]; decide))
  refine wpAny_bind ?_
  unfold Builtin.SmallTypes.newRecord
  dsimp only
  refine wpAny_newObj_type ?_ (by show 5 ≤ sizeLine + 2; rw [sizeLine_eq]; decide)
  exact wpAny_pure ⟨_, rfl, h⟩
theorem call_zip2 {l1 l2 : Addr} {xs ys : Array Value} {Q : Value → Shared → Prop} (h1 : SIs k s.heap l1 xs) (h2 : SIs k2 s.heap l2 ys)
    (q : ∀ h' : Heap, IsZip h' (s.heap.objs.size + 4) (s.heap.objs.size + 2) (s.heap.objs.size + 3) .none → IsPair h' (s.heap.objs.size + 2) (.ref s.heap.objs.size) (.ref (s.heap.objs.size + 1)) → IsPair h' (s.heap.objs.size + 3) .none .none →
      SIt k h' s.heap.objs.size l1 0 → SIt k2 h' (s.heap.objs.size + 1) l2 0 → (∀ (c : Addr) (o : Obj), s.heap.get? c = some o → h'.get? c = some o) → Q (.ref (s.heap.objs.size + 4)) { heap := h', gens := s.gens, drawn := s.drawn, toks := s.toks, os := s.os }) :
    wpAny (model prog w) A (call (.type "zip") [.ref l1, .ref l2]) Q E s := by
  refine callType_new F.called_zip (by decide) (F.typeCall_zip_2 _ _) (F.newCall_zip_2 _ _) (fun obj => F.args_object_init_3 _ _ _) F.entry_zip_new (meets_zip2 (k := k) (k2 := k2) l1 l2 xs ys) ⟨h1, h2, ?_⟩
  have fr : ∀ k l, (itO k l).isFreed = false := fun k l => by cases k <;> rfl
  have z1 : (s.heap.push (itO k l1)).objs.size = s.heap.objs.size + 1 := Heap.size_push _ _
  have z2 : ((s.heap.push (itO k l1)).push (itO k2 l2)).objs.size = s.heap.objs.size + 2 := by rw [Heap.size_push, z1]
  have g0 : (s.heap.push (itO k l1)).get? s.heap.objs.size = some (itO k l1) := Heap.get?_push_size _ (fr _ _)
  have g1 : ((s.heap.push (itO k l1)).push (itO k2 l2)).get? (s.heap.objs.size + 1) = some (itO k2 l2) := by rw [← z1]; exact Heap.get?_push_size _ (fr _ _)
  refine ⟨⟨_, Heap.get?_push_size _ rfl, rfl⟩, ?_⟩
  have zz : ((((s.heap.push (itO k l1)).push (itO k2 l2)).push { cls := .type "tuple", data := .seq #[.ref s.heap.objs.size, .ref (s.heap.push (itO k l1)).objs.size] }).push { cls := .type "tuple", data := .seq #[.none, .none] }).objs.size = s.heap.objs.size + 4 := by rw [Heap.size_push, Heap.size_push, z2]
  have z3 : (((s.heap.push (itO k l1)).push (itO k2 l2)).push { cls := .type "tuple", data := .seq #[.ref s.heap.objs.size, .ref (s.heap.push (itO k l1)).objs.size] }).objs.size = s.heap.objs.size + 3 := by rw [Heap.size_push, z2]
  show Q (.ref ((((s.heap.push (itO k l1)).push (itO k2 l2)).push { cls := .type "tuple", data := .seq #[.ref s.heap.objs.size, .ref (s.heap.push (itO k l1)).objs.size] }).push { cls := .type "tuple", data := .seq #[.none, .none] }).objs.size) _
  rw [zz]
  refine q _ ?_ ?_ ?_ ?_ ?_ ?_
  · have := Heap.get?_push_size ((((s.heap.push (itO k l1)).push (itO k2 l2)).push { cls := .type "tuple", data := .seq #[.ref s.heap.objs.size, .ref (s.heap.push (itO k l1)).objs.size] }).push { cls := .type "tuple", data := .seq #[.none, .none] }) (o := { cls := .type "zip", data := .fields #[.none, .bool false, .bool false, .ref ((s.heap.push (itO k l1)).push (itO k2 l2)).objs.size, .ref (((s.heap.push (itO k l1)).push (itO k2 l2)).push { cls := .type "tuple", data := .seq #[.ref s.heap.objs.size, .ref (s.heap.push (itO k l1)).objs.size] }).objs.size] }) rfl
    rw [zz, z2, z3] at this
    show (zH k k2 s.heap l1 l2).get? _ = _
    unfold zH
    rw [z2, z3]; exact this
  · refine Heap.get?_push_of_some _ (Heap.get?_push_of_some _ ?_)
    have := Heap.get?_push_size ((s.heap.push (itO k l1)).push (itO k2 l2)) (o := { cls := .type "tuple", data := .seq #[.ref s.heap.objs.size, .ref (s.heap.push (itO k l1)).objs.size] }) rfl
    rw [z2, z1] at this
    rw [z1]; exact this
  · refine Heap.get?_push_of_some _ ?_
    have := Heap.get?_push_size (((s.heap.push (itO k l1)).push (itO k2 l2)).push { cls := .type "tuple", data := .seq #[.ref s.heap.objs.size, .ref (s.heap.push (itO k l1)).objs.size] }) (o := { cls := .type "tuple", data := .seq #[.none, .none] }) rfl
    rw [z3] at this
    exact this
  · refine (SIt.new (k := k) s.heap l1).at fun o h => ?_
    exact Heap.get?_push_of_some _ (Heap.get?_push_of_some _ (Heap.get?_push_of_some _ (Heap.get?_push_of_some _ h)))
  · have := SIt.new (k := k2) (s.heap.push (itO k l1)) l2
    rw [z1] at this
    refine this.at fun o h => ?_
    exact Heap.get?_push_of_some _ (Heap.get?_push_of_some _ (Heap.get?_push_of_some _ h))
  · intro c o h
    exact Heap.get?_push_of_some _ (Heap.get?_push_of_some _ (Heap.get?_push_of_some _ (Heap.get?_push_of_some _ (Heap.get?_push_of_some _ h))))
end
/-- zip of two, each a list or a tuple -/
def iZip2 (K : PySem.W.Frag) (k k2 : Bool) (ta : TA) : TI := fun σ H R => ta σ H fun vs H1 => ∃ a b xs ys, vs = [.ref a, .ref b] ∧ SqK K k H1 a xs ∧ SqK K k2 H1 b ys ∧ R (Itz2 K k k2 a b) H1
theorem pi_zip2 {X : Cx} {K : PySem.W.Frag} {e e2 : Expr} {ta : TA} {p pos tpos : Pos} {elts : List Expr} {kk : Nat} (k k2 : Bool) (hK : X.K = K) (hg : Gl X "zip") (hm : X.mg "zip" = none) (ha : PA X [e, e2] ta)
    (hs : starEach [e, e2] X.env = (false, eval e X.env) :: starEach [e2] X.env := by rfl) (hpl : (backTo pos (starEach [e2] X.env)).any (·.1) = false := by rfl) :
    PI X (.Tuple elts kk tpos) (.Call (.Name "zip" p) [e, e2] [] pos) (iZip2 K k k2 ta) := by
  subst hK
  refine ⟨fun pins s σ H R I h => Call_ (ld_blt I hg hm boot_zip (callWith_type1 (thn (ha.run pos pins s σ H _ I h) fun us s1 ⟨vs, H1, I1, r1, q1⟩ => ?_) hs hpl))⟩
  obtain ⟨a, b, xs, ys, ex, hx, hy, q⟩ := q1
  subst ex
  cases r1 with
  | cons ra r2 =>
    cases r2 with
    | cons rb r3 =>
      cases r3
      cases ra; cases rb
      obtain ⟨its, rv, p1⟩ := hx.at I1
      obtain ⟨its2, rv2, p2⟩ := hy.at I1
      refine call_zip2 p1 p2 fun h' hz hTI hTO h1 h2 hk => wpAny_pyIter_zip hz ?_
      have I2 := I1.kept (t' := s1.toks) hk
      refine ⟨_, _, _, _, H1, rfl, I2, turn_zip2 (k := k) (k2 := k2) (PySem.W.ktu_apart s1.heap.objs.size a b p1.lt p2.lt), ⟨hz, hTI, ⟨_, _, hTO⟩, h1, h2⟩, fun c hc => ?_, q⟩
      have le : s1.heap.objs.size ≤ c := by
        simp only [List.mem_cons, List.not_mem_nil, or_false] at hc
        rcases hc with rfl | rfl | rfl | rfl | rfl <;> first | exact Nat.le_refl _ | exact Nat.le_add_right _ _
      have := I1.fpOk (H' := H1) le (I1.hok.fresh le)
      exact this
end PL
namespace PL
open PySem PyProof.Rows L2
section
variable {prog : Program} {w : World} {A : Around} {E : Value → Shared → Prop} {s : Shared} {k : Bool}
theorem en_item {e it l : Addr} {i : Nat} {items : Array Value} {x old : Value} {Q : Value → Shared → Prop} (he : IsEnum s.heap e it (i : Int) old) (h1 : SIt k s.heap it l i) (hx : SIs k s.heap l items) (ex : items[i]? = some x) (ne : e ≠ it)
    (q : ∀ h' : Heap, IsEnumOut h' e it ((i : Int) + 1) x s.heap.objs.size → SIt k h' it l (i + 1) → h'.get? s.heap.objs.size = some { cls := .type "tuple", data := .seq #[.int (i : Int) s.toks, x] } →
      (∀ (b : Addr) (o : Obj), b ≠ e → b ≠ it → s.heap.get? b = some o → h'.get? b = some o) → Q (.ref s.heap.objs.size) { heap := h', gens := s.gens, drawn := s.drawn, toks := s.toks + 1, os := s.os }) :
    wpAny (model prog w) A (Builtin.«enumerate.__next__» { pos := [.ref e] }) (fun fin s' => ∃ v, fin = .done (.ret v) ∧ Q v s') E s := by
  unfold Builtin.«enumerate.__next__»
  refine wpAny_bind (wpAny_of_eq (a := (.ref e, [])) rfl ?_)
  refine wpAny_bind (wpAny_field he rfl rfl ?_)
  refine wpAny_bind (next_item h1 hx ex fun h2 j2 b2 => ?_)
  have e2 := b2.extBut
  have g2 := e2 _ _ ne he
  refine wpAny_bind (wpAny_field g2 rfl rfl ?_)
  refine wpAny_bind (wpAny_field g2 rfl rfl ?_)
  refine wpAny_ite_true rfl ?_
  refine wpAny_bind ?_
  refine wpAny_mkInt ?_
  dsimp only
  refine wpAny_bind (wpAny_setField_rec g2 (by show 3 < 6; decide) fun h3 g3 b3 => ?_)
  have e3 := b3.extBut
  refine wpAny_bind (wpAny_setField_rec g3 (by show 4 < 6; decide) fun h4 g4 b4 => ?_)
  have e4 := b4.extBut
  refine wpAny_bind (wpAny_newTuple ?_ (by show 2 ≤ sizeLine; rw [sizeLine_eq]; decide))
  have g5 : (h4.push { cls := .type "tuple", data := .seq [.int (i : Int) s.toks, x].toArray }).get? e = _ := Heap.get?_push_of_some _ g4
  unfold Builtin.SmallTypes.ownedTupleIsFree
  refine wpAny_bind (wpAny_bind (wpAny_field g5 rfl rfl (wpAny_pure ?_)))
  refine wpAny_ite_true rfl ?_
  refine wpAny_bind (wpAny_rule ?_)
  refine wpAny_bind (wpAny_field g5 rfl rfl ?_)
  refine wpAny_bind (wpAny_setField_rec g5 (by show 5 < 6; decide) fun h6 g6 b6 => ?_)
  have e6 := b6.extBut
  unfold Builtin.SmallTypes.ownedTupleHandOut
  refine wpAny_bind ?_
  dsimp only
  refine wpAny_bind (wpAny_setField_rec g6 (by show 0 < 6; decide) fun h7 g7 b7 => ?_)
  have e7 := b7.extBut
  refine wpAny_setField_rec g7 (by show 1 < 6; decide) fun h8 g8 b8 => ?_
  have e8 := b8.extBut
  refine wpAny_bind (wpAny_letGo ?_)
  have sz : h4.objs.size = s.heap.objs.size := b4.1.trans (b3.1.trans b2.1)
  have new : (h4.push { cls := .type "tuple", data := .seq [.int (i : Int) s.toks, x].toArray }).get? h4.objs.size = some { cls := .type "tuple", data := .seq [.int (i : Int) s.toks, x].toArray } := Heap.get?_push_size _ rfl
  have nz : h4.objs.size ≠ e := fun h => absurd (Heap.lt_size he) (by rw [← h, sz]; exact Nat.lt_irrefl _)
  have step : ∀ (c : Addr) (o : Obj), c ≠ e → h4.get? c = some o → h8.get? c = some o := fun c o hc h => e8 _ _ hc (e7 _ _ hc (e6 _ _ hc (Heap.get?_push_of_some _ h)))
  refine wpAny_pure ⟨_, rfl, ?_⟩
  show Q (.ref h4.objs.size) _
  rw [sz]
  refine q h8 ?_ ?_ ?_ ?_
  · rw [← sz]; exact g8
  · have e3' : Heap.ExtBut e h2 h3 := e3
    have e4' : Heap.ExtBut e h3 h4 := e4
    exact ((j2.extBut e3' ne.symm).extBut e4' ne.symm).at fun o h => step _ _ ne.symm h
  · rw [← sz]; exact e8 _ _ nz (e7 _ _ nz (e6 _ _ nz new))
  · intro b o hb hi h
    exact step _ _ hb (e4 _ _ hb (e3 _ _ hb (e2 _ _ hi h)))
theorem en_end {e it l : Addr} {i : Nat} {items : Array Value} {old : Value} {Q : Fin → Shared → Prop} (hd : A.handled = none) (he : IsEnum s.heap e it (i : Int) old) (h1 : SIt k s.heap it l i) (hx : SIs k s.heap l items) (ex : items[i]? = none)
    (q : ∀ (h' : Heap) (x : Addr), Heap.ExtBut it s.heap h' → (∃ o, h'.get? x = some o ∧ o.cls = .type "StopIteration") → E (.ref x) { heap := h', gens := s.gens, drawn := s.drawn, toks := s.toks, os := s.os }) :
    wpAny (model prog w) A (Builtin.«enumerate.__next__» { pos := [.ref e] }) Q E s := by
  unfold Builtin.«enumerate.__next__»
  refine wpAny_bind (wpAny_of_eq (a := (.ref e, [])) rfl ?_)
  refine wpAny_bind (wpAny_field he rfl rfl ?_)
  exact wpAny_bind (next_end hd h1 hx ex q)
theorem pe_item {e it l : Addr} {i : Nat} {items : Array Value} {x old : Value} {Q : Option Value → Shared → Prop} (he : IsEnum s.heap e it (i : Int) old) (h1 : SIt k s.heap it l i) (hx : SIs k s.heap l items) (ex : items[i]? = some x) (ne : e ≠ it)
    (q : ∀ h' : Heap, IsEnumOut h' e it ((i : Int) + 1) x s.heap.objs.size → SIt k h' it l (i + 1) → h'.get? s.heap.objs.size = some { cls := .type "tuple", data := .seq #[.int (i : Int) s.toks, x] } →
      (∀ (b : Addr) (o : Obj), b ≠ e → b ≠ it → s.heap.get? b = some o → h'.get? b = some o) → Q (some (.ref s.heap.objs.size)) { heap := h', gens := s.gens, drawn := s.drawn, toks := s.toks + 1, os := s.os }) :
    wpAny (model prog w) A (pyNext (.ref e)) Q E s := by
  unfold pyNext
  have ty : s.TypeIs (.ref e) "enumerate" := ⟨_, he, rfl⟩
  refine wpAny_bind (wpAny_attempt (wpAny_callSpecial?_slot ty F.slot_enumerate_next (wpAny_call_entry F.slot_enumerate_next ty F.entry_enumerate_next (en_item he h1 hx ex ne ?_) (F.args_enumerate_next_1 _))))
  intro h' a1 a2 a3 a4
  exact wpAny_pure (q h' a1 a2 a3 a4)
theorem pe_end {e it l : Addr} {i : Nat} {items : Array Value} {old : Value} {Q : Option Value → Shared → Prop} (hd : A.handled = none) (he : IsEnum s.heap e it (i : Int) old) (h1 : SIt k s.heap it l i) (hx : SIs k s.heap l items) (ex : items[i]? = none)
    (q : ∀ h' : Heap, Heap.ExtBut it s.heap h' → Q none { heap := h', gens := s.gens, drawn := s.drawn, toks := s.toks, os := s.os }) :
    wpAny (model prog w) A (pyNext (.ref e)) Q E s := by
  unfold pyNext
  have ty : s.TypeIs (.ref e) "enumerate" := ⟨_, he, rfl⟩
  refine wpAny_bind (wpAny_attempt (wpAny_callSpecial?_slot ty F.slot_enumerate_next (wpAny_call_entry F.slot_enumerate_next ty F.entry_enumerate_next (en_end (A := A.in1) hd he h1 hx ex ?_) (F.args_enumerate_next_1 _))))
  intro h' x a1 ⟨o, ho, hc⟩
  have ty : Shared.TypeIs { heap := h', gens := s.gens, drawn := s.drawn, toks := s.toks, os := s.os } (.ref x) "StopIteration" := ⟨o, ho, hc⟩
  refine wpAny_bind (wpAny_isInstance ty isSubtype_stop ?_)
  exact wpAny_pure (q h' a1)
theorem meets_enum2 (l : Addr) (items : Array Value) : Meets (Builtin.«enumerate.__new__» { pos := [.type "enumerate", .ref l] }) fun _ R s =>
    SIs k s.heap l items ∧ R (.ok (.ret (.ref (s.heap.push (itO k l)).objs.size))) { heap := (s.heap.push (itO k l)).push { cls := .type "enumerate", data := .fields #[.none, .bool false, .ref s.heap.objs.size, rawInt 0, .none, .none] }, gens := s.gens, drawn := s.drawn, toks := s.toks, os := s.os } := by
  refine Meets.of_wp fun prog w A R s ⟨h1, h⟩ => ?_
  cases s with | mk hp g d tk os =>
  unfold Builtin.«enumerate.__new__»
  refine wpAny_bind ?_
  unfold Builtin.SmallTypes.newClass
  refine wpAny_bind (wpAny_pure (wpAny_ite_false rfl (wpAny_bind (wpAny_of_eq sub_enumerate (wpAny_ite_false rfl (wpAny_pure ?_))))))
  refine wpAny_ite_true rfl ?_
  refine wpAny_bind ?_
  unfold Builtin.SmallTypes.calledThroughType
  refine wpAny_bind (wpAny_stack_any fun st => wpAny_pure ?_)
  dsimp only
  have fin : wpAny (model prog w) A.in1 (pyIter (.ref l) >>= fun it => (Builtin.SmallTypes.newRecord (.type "enumerate") (Builtin.SmallTypes.ownedTupleFields ++ [it, rawInt 0, .none, .none])) >>= fun r => ret r) (fun fin s' => ∃ v, fin = Fin.done (Flow.ret v) ∧ R (.ok (.ret v)) s') (fun e s' => R (.error e) s') { heap := hp, gens := g, drawn := d, toks := tk, os := os } := by
    refine wpAny_bind (iter_k h1 ?_)
    refine wpAny_bind ?_
    unfold Builtin.SmallTypes.newRecord
    dsimp only
    refine wpAny_newObj_type ?_ (by show 6 ≤ sizeLine + 2; rw [sizeLine_eq]; decide)
    exact wpAny_pure ⟨_, rfl, h⟩
  split
  · split
    · refine wpAny_bind (wpAny_of_eq (a := ((Value.ref l, (none : Option Value)) : Value × Option Value)) rfl ?_)
      exact fin
    · refine wpAny_bind (wpAny_of_eq (a := ((Value.ref l, (none : Option Value)) : Value × Option Value)) rfl ?_)
      exact fin
  · refine wpAny_ite_false rfl ?_
    refine wpAny_bind (wpAny_of_eq (a := ((Value.ref l, (none : Option Value)) : Value × Option Value)) rfl ?_)
    exact fin
theorem call_enum2 {l : Addr} {items : Array Value} {Q : Value → Shared → Prop} (h1 : SIs k s.heap l items)
    (q : ∀ h' : Heap, IsEnum h' (s.heap.objs.size + 1) s.heap.objs.size 0 .none → SIt k h' s.heap.objs.size l 0 → (∀ (c : Addr) (o : Obj), s.heap.get? c = some o → h'.get? c = some o) → Q (.ref (s.heap.objs.size + 1)) { heap := h', gens := s.gens, drawn := s.drawn, toks := s.toks, os := s.os }) :
    wpAny (model prog w) A (call (.type "enumerate") [.ref l]) Q E s := by
  refine callType_new F.called_enumerate (by decide) (F.typeCall_enumerate_1 _) (F.newCall_enumerate_1 _) (fun obj => F.args_object_init_2 _ _) F.entry_enumerate_new (meets_enum2 (k := k) l items) ⟨h1, ?_⟩
  have z1 : (s.heap.push (itO k l)).objs.size = s.heap.objs.size + 1 := Heap.size_push _ _
  refine ⟨⟨_, Heap.get?_push_size _ rfl, rfl⟩, ?_⟩
  show Q (.ref (s.heap.push (itO k l)).objs.size) _
  rw [z1]
  refine q _ ?_ ((SIt.new (k := k) s.heap l).at fun o h => Heap.get?_push_of_some _ h) fun c o h => Heap.get?_push_of_some _ (Heap.get?_push_of_some _ h)
  have := Heap.get?_push_size (s.heap.push (itO k l)) (o := { cls := .type "enumerate", data := .fields #[.none, .bool false, .ref s.heap.objs.size, rawInt 0, .none, .none] }) rfl
  rw [z1] at this
  exact this
end
def Ite2 (K : PySem.W.Frag) (k : Bool) (a : Addr) : It where
  go := fun i H => ∃ xs x, SqK K k H a xs ∧ xs[i]? = some x
  yld := fun i H v H' => ∃ T x, v = .ref T ∧ H T = none ∧ H' = upd H T (.tup [.int (i : Int), x]) ∧ ∀ xs, SqK K k H a xs → xs[i]? = some x
  stop := fun i H => ∃ xs, SqK K k H a xs ∧ xs.length ≤ i
theorem SIt.obj {k : Bool} {h : Heap} {i l : Addr} {n : Nat} (x : SIt k h i l n) : ∃ o, h.get? i = some o ∧ ∀ v : Option Value, o.data ≠ .cell v := by
  cases k
  · obtain ⟨o, e1, e2, e3⟩ := x; exact ⟨o, e1, fun v => by rw [e3]; exact fun z => by cases z⟩
  · obtain ⟨o, e1, e2, e3⟩ := x; exact ⟨o, e1, fun v => by rw [e3]; exact fun z => by cases z⟩
theorem turn_enum2 {P : Program} {w : World} {K : PySem.W.Frag} {elts : List Expr} {kk : Nat} {tpos : Pos} {k : Bool} {a e it : Addr} (ne : e ≠ it) :
    Turn P w K (.Tuple elts kk tpos) (Ite2 K k a) [e, it] e fun i h => (∃ old, IsEnum h e it (i : Int) old) ∧ SIt k h it a i := by
  refine ⟨List.mem_cons_self, ?_, ?_, ?_, ?_, ?_⟩
  · rintro i h ⟨⟨old, q1⟩, q4⟩ b hb
    simp only [List.mem_cons, List.not_mem_nil, or_false] at hb
    rcases hb with rfl | rfl
    · exact ⟨_, q1, fun v z => by cases z⟩
    · exact q4.obj
  · rintro i h h' ⟨⟨old, q1⟩, q4⟩ hb
    exact ⟨⟨old, hb _ (by simp) _ q1⟩, q4.at fun o => hb _ (by simp) o⟩
  · rintro X rfl rfl rfl hc i pins s σ H E I fp ⟨⟨old, q1⟩, q4⟩ ⟨xs, x, hx, ex⟩
    obtain ⟨its, r1, p1⟩ := hx.at I
    obtain ⟨u, eu, ru⟩ := r1.get ex
    refine pe_item q1 q4 p1 (by rw [List.getElem?_toArray]; exact eu) ne fun h' a1 a3 a5 a7 => ?_
    refine ⟨_, rfl, wpAny_letOwnedTupleGo_enum a1 fun h2 b1 b2 => ?_⟩
    have e2 := b2.extBut
    have hT : H s.heap.objs.size = none := I.hok.fresh (Nat.le_refl _)
    have nz : s.heap.objs.size ≠ e := fun h => absurd (Heap.lt_size q1) (by rw [← h]; exact Nat.lt_irrefl _)
    refine ⟨.ref s.heap.objs.size, upd H s.heap.objs.size (.tup [.int (i : Int), x]), ?_, rfl, ⟨_, x, rfl, hT, rfl, fun xs' h => ?_⟩, ⟨⟨_, b1⟩, ?_⟩, fun b hb => ?_⟩
    · refine I.turnedNew (ch := [e, it]) (fun b o hb h => ?_) fp (Nat.le_refl _) ?_
      · simp only [List.mem_cons, List.not_mem_nil, or_false, not_or] at hb
        exact e2 _ _ hb.1 (a7 _ _ hb.1 hb.2 h)
      · simp only [L2.ObjOk]
        exact ⟨by show 2 ≤ sizeLine; rw [sizeLine_eq]; decide, [.int (i : Int) s.toks, u], .cons ⟨_, rfl⟩ (.cons ru .nil), _, e2 _ _ nz a5, rfl, _, rfl⟩
    · rw [SqK.inj I h hx]; exact ex
    · exact a3.extBut e2 ne.symm
    · have hf := fp b hb
      have : b ≠ s.heap.objs.size := fun h => by
        simp only [List.mem_cons, List.not_mem_nil, or_false] at hb
        obtain ⟨o1, g1, _⟩ := q4.obj
        rcases hb with rfl | rfl
        · exact absurd (Heap.lt_size q1) (by rw [h]; exact Nat.lt_irrefl _)
        · exact absurd (Heap.lt_size g1) (by rw [h]; exact Nat.lt_irrefl _)
      rw [upd_ne this]; exact hf.1
  · rintro X rfl rfl rfl hc i pins s σ H E I fp ⟨⟨old, q1⟩, q4⟩ ⟨xs, hx, hl⟩
    obtain ⟨its, r1, p1⟩ := hx.at I
    refine pe_end (I.ok.hd hc) q1 q4 p1 ?_ fun h' a1 => ⟨rfl, I.turnedL (ch := [e, it]) (fun b o hb h => ?_) fp⟩
    · have l1 := r1.length
      simp only [List.getElem?_toArray]
      exact List.getElem?_eq_none (by omega)
    · simp only [List.mem_cons, List.not_mem_nil, or_false, not_or] at hb
      exact a1 _ _ hb.2 h
  · rintro A i s Q E ⟨⟨old, q1⟩, _⟩ q
    exact wpAny_pyIter_enum q1 q
/-- enumerate of a list or a tuple -/
def iEnum2 (K : PySem.W.Frag) (k : Bool) (ta : TA) : TI := fun σ H R => ta σ H fun vs H1 => ∃ a xs, vs = [.ref a] ∧ SqK K k H1 a xs ∧ R (Ite2 K k a) H1
theorem pi_enum2 {X : Cx} {K : PySem.W.Frag} {e : Expr} {ta : TA} {p pos tpos : Pos} {elts : List Expr} {kk : Nat} (k : Bool) (hK : X.K = K) (hg : Gl X "enumerate") (hm : X.mg "enumerate" = none) (ha : PA X [e] ta)
    (hs : starEach [e] X.env = (false, eval e X.env) :: starEach [] X.env := by rfl) (hpl : (backTo pos (starEach [] X.env)).any (·.1) = false := by rfl) :
    PI X (.Tuple elts kk tpos) (.Call (.Name "enumerate" p) [e] [] pos) (iEnum2 K k ta) := by
  subst hK
  refine ⟨fun pins s σ H R I h => Call_ (ld_blt I hg hm boot_enumerate (callWith_type1 (thn (ha.run pos pins s σ H _ I h) fun us s1 ⟨vs, H1, I1, r1, q1⟩ => ?_) hs hpl))⟩
  obtain ⟨a, xs, ex, hx, q⟩ := q1
  subst ex
  cases r1 with
  | cons ra r2 =>
    cases r2
    cases ra
    obtain ⟨its, rv, p1⟩ := hx.at I1
    refine call_enum2 p1 fun h' hz h1 hk => wpAny_pyIter_enum hz ?_
    have I2 := I1.kept (t' := s1.toks) hk
    refine ⟨_, _, _, _, H1, rfl, I2, turn_enum2 (k := k) (Nat.succ_ne_self s1.heap.objs.size), ⟨⟨_, hz⟩, h1⟩, fun c hc => ?_, q⟩
    have le : s1.heap.objs.size ≤ c := by
      simp only [List.mem_cons, List.not_mem_nil, or_false] at hc
      rcases hc with rfl | rfl <;> first | exact Nat.le_refl _ | exact Nat.le_add_right _ _
    have := I1.fpOk (H' := H1) le (I1.hok.fresh le)
    exact this
end PL
namespace PL
open PySem PyProof.Rows L2
theorem adjust_rev (n : Nat) : Builtin.Slice.sliceAdjust none none (-1) (n : Int) = ((n : Int) - 1, -1) := by
  unfold Builtin.Slice.sliceAdjust
  simp
theorem places_rev (n : Nat) : Builtin.Slice.slicePlaces ((n : Int) - 1) (-1) (-1) = n := by
  unfold Builtin.Slice.slicePlaces
  simp
  try omega
theorem fm_congr {α β : Type} {f g : α → Option β} : ∀ {l : List α}, (∀ x ∈ l, f x = g x) → l.filterMap f = l.filterMap g
  | [], _ => rfl
  | a :: l, h => by
    rw [List.filterMap_cons, List.filterMap_cons, h a List.mem_cons_self, fm_congr fun x hx => h x (List.mem_cons_of_mem _ hx)]
theorem pick_rev (xs : Array Value) : (List.filterMap (fun (m : Nat) => xs[(((xs.size : Nat) : Int) - 1 + (m : Int) * -1).toNat]?) (List.range xs.size)).toArray = xs.toList.reverse.toArray := by
  congr 1
  refine List.ext_getElem? fun i => ?_
  have e : (List.range xs.size).filterMap (fun (m : Nat) => xs[(((xs.size : Nat) : Int) - 1 + (m : Int) * -1).toNat]?) = (List.range xs.size).map fun m => xs.toList.getD (xs.size - 1 - m) .none := by
    rw [← List.filterMap_eq_map]
    refine fm_congr fun m hm => ?_
    have hm := List.mem_range.mp hm
    have e : (((xs.size : Nat) : Int) - 1 + (m : Int) * -1).toNat = xs.size - 1 - m := by omega
    rw [e]
    have hl : xs.size - 1 - m < xs.size := by omega
    simp [List.getD, hl]
  rw [e]
  by_cases hi : i < xs.size
  · rw [List.getElem?_map, List.getElem?_range hi, List.getElem?_reverse (by simpa using hi)]
    have hl : xs.size - 1 - i < xs.size := by omega
    simp [List.getD, hl]
  · rw [List.getElem?_eq_none (by simpa using hi), List.getElem?_eq_none (by simpa using hi)]
section
variable {prog : Program} {w : World} {A : Around} {E : Value → Shared → Prop} {s : Shared}
theorem sliceApplied_rev {sl : Addr} {vl vu vs : Value} {n : Nat} {Q : Int × Int × Nat → Shared → Prop} (h : s.heap.IsSliceOf sl vl vu vs) (pl : IsPart vl none) (pu : IsPart vu none) (ps : IsPart vs (some (-1))) (q : Q ((n : Int) - 1, -1, n) s) :
    wpAny (model prog w) A (Builtin.Slice.sliceApplied (.ref sl) (pure (n : Int))) Q E s := by
  obtain ⟨o, h1, _, h2⟩ := h
  unfold Builtin.Slice.sliceApplied
  refine wpAny_bind ?_
  unfold Builtin.Slice.sliceFields
  refine wpAny_bind (wpAny_field h1 h2 rfl (wpAny_bind (wpAny_field h1 h2 rfl (wpAny_bind (wpAny_field h1 h2 rfl (wpAny_pure ?_))))))
  refine wpAny_bind (HT.slicePart_ ps ?_)
  refine wpAny_ite_false rfl ?_
  refine wpAny_bind (HT.slicePart_ pl ?_)
  refine wpAny_bind (HT.slicePart_ pu ?_)
  refine wpAny_bind (wpAny_pure ?_)
  show wpAny _ _ (match Builtin.Slice.sliceAdjust none none (-1) (n : Int) with | (lo, hi) => pure (lo, -1, Builtin.Slice.slicePlaces lo hi (-1))) _ _ _
  rw [adjust_rev]
  show wpAny _ _ (pure ((n : Int) - 1, -1, Builtin.Slice.slicePlaces ((n : Int) - 1) (-1) (-1))) _ _ _
  rw [places_rev]
  exact wpAny_pure q
theorem getItem_tuple_rev {t sl : Addr} {items : Array Value} {vl vu vs : Value} {Q : Value → Shared → Prop} (ht : IsTup s.heap t items) (h : s.heap.IsSliceOf sl vl vu vs) (pl : IsPart vl none) (pu : IsPart vu none) (ps : IsPart vs (some (-1))) (hs : items.size ≤ sizeLine)
    (q : Q (.ref s.heap.objs.size) { heap := s.heap.push { cls := .type "tuple", data := .seq items.toList.reverse.toArray }, gens := s.gens, drawn := s.drawn, toks := s.toks, os := s.os }) :
    wpAny (model prog w) A (getItem (.ref t) (.ref sl)) Q E s := by
  unfold getItem
  have ty := ht.typeIs
  have tsl : s.TypeIs (.ref sl) "slice" := by
    obtain ⟨o, h1, h2, _⟩ := h
    exact ⟨o, h1, h2⟩
  refine wpAny_holding (wpAny_bind (wpAny_sequenceKey ty (by decide) ?_))
  refine wpAny_bind (wpAny_callSpecial?_slot ty slot_tuple_getitem (wpAny_call_entry slot_tuple_getitem ty entry_tuple_getitem ?_ (args_tuple_getitem _ _)))
  unfold Builtin.«tuple.__getitem__»
  refine wpAny_bind (wpAny_of_eq (a := (.ref t, [.ref sl])) rfl ?_)
  refine wpAny_bind (tupleItemsOf_ ht ?_)
  refine wpAny_bind (wpAny_typeOf tsl ?_)
  refine wpAny_ite_true rfl ?_
  refine wpAny_bind (sliceApplied_rev (n := items.size) h pl pu ps ?_)
  dsimp only
  rw [if_neg (by simp)]
  unfold Builtin.Tuple.tupleExact
  rw [pick_rev]
  refine wpAny_bind (wpAny_newObj_type ?_ (by show _ ≤ sizeLine; simpa using hs))
  exact wpAny_pure ⟨_, rfl, wpAny_pure q⟩
end
/-- a tuple the other way about -/
def tRevT (K : PySem.W.Frag) (te : TE) : TE := fun σ H Q => te σ H fun x H1 => ∃ a xs, x = .ref a ∧ SqT K H1 a xs ∧ ∀ p, H1 p = none → Q (.ref p) (upd H1 p (.tup xs.reverse))
theorem pe_revT {X : Cx} {K : PySem.W.Frag} {e : Expr} {te : TE} {k : Nat} {p1 p2 p3 pos : Pos} (hK : X.K = K) (he : PE X e te) :
    PE X (.Subscript e (.Slice none none (some (.UnaryOp .USub (.Constant (.int 1) k p1) p2)) p3) pos) (tRevT K te) := by
  subst hK
  refine ⟨fun pins s σ H Q I h => Subscript_ (thn (he.run pins s σ H _ I h) fun v s1 ⟨x, H1, I1, r1, q1⟩ => ?_)⟩
  obtain ⟨a, xs, ex, hx, q⟩ := q1
  subst ex; cases r1
  have hst : PO X (some (.UnaryOp .USub (.Constant (.int 1) k p1) p2)) (tPart (tUn (rU fun i => V.int (-i)) (tC (.int 1)))) := po_some (pe_un un_neg pe_int)
  refine wpAny_Slice (thn (po_none.run pins s1 σ H1 (fun o H2 => o = none ∧ H2 = H1) I1 ⟨rfl, rfl⟩) fun vl s2 ⟨l, H2, I2, pl, el, e2⟩ => ?_)
  subst el e2
  refine thn (po_none.run pins s2 σ H2 (fun o H3 => o = none ∧ H3 = H2) I2 ⟨rfl, rfl⟩) fun vu s3 ⟨u, H3, I3, pu, eu, e3⟩ => ?_
  subst eu e3
  refine thn (hst.run pins s3 σ H3 (fun o H4 => o = some (-1) ∧ H4 = H3) I3 ⟨1, rfl, -1, rfl, rfl, rfl⟩) fun vs s4 ⟨o, H4, I4, ps, eo, e4⟩ => ?_
  subst eo e4
  have I5 := I4.kept (t' := s4.toks) fun b o e => Heap.get?_push_of_some (h := s4.heap) { cls := .type "slice", data := .fields #[vl, vu, vs] } e
  obtain ⟨its, rv, p1, le⟩ := I5.tuple hx
  have le2 : its.toArray.size ≤ sizeLine := by rw [List.size_toArray, ← rv.length]; exact le
  refine tail_any p1.typeIs slot_tuple_getitem.lookup (getItem_tuple_rev p1 (Heap.IsSliceOf.new _ _ _ _) pl pu ps le2 ?_) rfl
  have hb := Nat.le_refl (s4.heap.push { cls := .type "slice", data := .fields #[vl, vu, vs] }).objs.size
  refine ⟨.ref _, _, I5.laid (t' := s4.toks) (fun b o e => Heap.get?_push_of_some _ e) hb ?_, rfl, q _ (I5.hok.fresh hb)⟩
  simp only [L2.ObjOk]
  exact ⟨by rw [List.length_reverse]; exact le, its.reverse, rv.reverse, IsTup.new _ _⟩
end PL

set_option Elab.async false
set_option linter.all false
set_option maxRecDepth 100000
set_option maxHeartbeats 2000000
namespace PL
open PySem PySem.Spec PyProof.Rows L2 Evl
section
variable {K : PySem.W.Frag} {F H : Hp} {as : List Addr} {c : List Ob} {ρ : PR} {Q : PQ} {D : PEnds} {te ta tb : TE} {tt t1 t2 : TT} {tl : TA}
/-- what is a list (true) or a tuple (false) and stays -/
inductive FzK : Bool → P → List P → Prop
  | lst (xs : List P) : FzK true (.lst xs) xs
  | klst (xs : List P) : FzK true (.klst xs) xs
  | tup (xs : List P) : FzK false (.tup xs) xs
theorem FzK.at {k : Bool} {p : P} {ps : List P} {v : V} (h : FzK k p ps) (r : Rep K F as v p) : ∃ a xs, v = .ref a ∧ SqK K k F a xs ∧ Reps K F as xs ps := by
  cases h with
  | lst => cases r with | lst h1 h2 => exact ⟨_, _, rfl, sq_of h1, h2⟩
  | klst => cases r with | klst h1 h2 => exact ⟨_, _, rfl, h1, h2⟩
  | tup => cases r with | tup h1 h2 => exact ⟨_, _, rfl, h1, h2⟩
theorem FzK.of {k : Bool} {p : P} {xs ys : List P} (h : FzK k p xs) (e : xs = ys) : FzK k p ys := e ▸ h
theorem SqK.ex {k : Bool} {a : Addr} {xs : List V} {H' : Hp} (e : Ex H H') (h : SqK K k H a xs) : SqK K k H' a xs := by
  cases k
  · exact ex_t e h
  · exact ex_l e h
def zipP : List P → List P → List P
  | x :: xs, y :: ys => .tup [x, y] :: zipP xs ys
  | _, _ => []
theorem zipP_len : ∀ xs ys : List P, (zipP xs ys).length = min xs.length ys.length
  | [], _ => by simp [zipP]
  | _ :: _, [] => by simp [zipP]
  | x :: xs, y :: ys => by simp [zipP, zipP_len xs ys]
theorem zipP_get : ∀ {xs ys : List P} {i : Nat} {p : P}, (zipP xs ys)[i]? = some p → ∃ x y, xs[i]? = some x ∧ ys[i]? = some y ∧ p = .tup [x, y]
  | [], _, _, _, h => by simp [zipP] at h
  | _ :: _, [], _, _, h => by simp [zipP] at h
  | x :: xs, y :: ys, 0, p, h => by simp [zipP] at h; exact ⟨x, y, rfl, rfl, h.symm⟩
  | x :: xs, y :: ys, i + 1, p, h => by
    simp only [zipP, List.getElem?_cons_succ] at h ⊢
    exact zipP_get h
def enumP (i : Int) : List P → List P
  | [] => []
  | x :: xs => .tup [.int i, x] :: enumP (i + 1) xs
theorem enumP_len : ∀ (xs : List P) (i : Int), (enumP i xs).length = xs.length
  | [], _ => rfl
  | x :: xs, i => by simp [enumP, enumP_len xs]
theorem enumP_get : ∀ {xs : List P} {i : Int} {n : Nat} {p : P}, (enumP i xs)[n]? = some p → ∃ x, xs[n]? = some x ∧ p = .tup [.int (i + (n : Int)), x]
  | [], _, _, _, h => by simp [enumP] at h
  | x :: xs, i, 0, p, h => by simp [enumP] at h; exact ⟨x, rfl, by rw [← h]; simp⟩
  | x :: xs, i, n + 1, p, h => by
    simp only [enumP, List.getElem?_cons_succ] at h ⊢
    obtain ⟨y, h1, h2⟩ := enumP_get h
    exact ⟨y, h1, by rw [h2]; congr 3; omega⟩
theorem jok_zip {k k2 : Bool} {a b : Addr} {xs ys : List V} {ps qs : List P} (h : SqK K k F a xs) (g : SqK K k2 F b ys) (r : Reps K F as xs ps) (s : Reps K F as ys qs) : JOk K (Itz2 K k k2 a b) F as (zipP ps qs) := fun i H2 as2 F2 c2 w2 m pre => by
  have h2 : SqK K k H2 a xs := SqK.ex (Ex.trans m w2.sub) h
  have g2 : SqK K k2 H2 b ys := SqK.ex (Ex.trans m w2.sub) g
  have l1 := r.length
  have l2 := s.length
  refine ⟨fun hi => ⟨xs, ys, h2, g2, ?_⟩, fun p e => ?_⟩
  · rw [zipP_len] at hi
    rcases Nat.le_total ps.length qs.length with z | z
    · exact .inl (by rw [l1]; rw [Nat.min_eq_left z] at hi; exact hi)
    · exact .inr (by rw [l2]; rw [Nat.min_eq_right z] at hi; exact hi)
  · obtain ⟨x, y, ex, ey, rfl⟩ := zipP_get e
    obtain ⟨v, e1, r1⟩ := r.get ex
    obtain ⟨u, e2, r2⟩ := s.get ey
    refine ⟨⟨xs, ys, v, u, h2, g2, e1, e2⟩, fun z H3 ⟨T, x', y', ez, hT, eH, hx, hy⟩ => ?_⟩
    have ev : x' = v := Option.some.inj ((hx xs h2).symm.trans e1)
    have eu : y' = u := Option.some.inj ((hy ys g2).symm.trans e2)
    subst ev eu ez eH
    obtain ⟨w3, x3⟩ := w2.alloc hT (.tup [x', y'])
    exact ⟨_, w3, x3, .tup (st_of upd_same) (.cons ((r1.mono m pre).xt x3) (.cons ((r2.mono m pre).xt x3) .nil))⟩
theorem jok_enum {k : Bool} {a : Addr} {xs : List V} {ps : List P} (h : SqK K k F a xs) (r : Reps K F as xs ps) : JOk K (Ite2 K k a) F as (enumP 0 ps) := fun i H2 as2 F2 c2 w2 m pre => by
  have h2 : SqK K k H2 a xs := SqK.ex (Ex.trans m w2.sub) h
  have l1 := r.length
  refine ⟨fun hi => ⟨xs, h2, by rw [enumP_len] at hi; omega⟩, fun p e => ?_⟩
  obtain ⟨x, ex, rfl⟩ := enumP_get e
  obtain ⟨v, e1, r1⟩ := r.get ex
  refine ⟨⟨xs, v, h2, e1⟩, fun z H3 ⟨T, x', ez, hT, eH, hx⟩ => ?_⟩
  have ev : x' = v := Option.some.inj ((hx xs h2).symm.trans e1)
  subst ev ez eH
  obtain ⟨w3, x3⟩ := w2.alloc hT (.tup [.int (i : Int), x'])
  have e0 : (0 : Int) + (i : Int) = (i : Int) := by omega
  rw [e0]
  exact ⟨_, w3, x3, .tup (st_of upd_same) (.cons (.int _) (.cons ((r1.mono m pre).xt x3) .nil))⟩
theorem iw_zip2 {k k2 : Bool} {Q : List P → List Ob → Prop} (h : AW K tl ρ c fun ps c1 => ∃ p q xs ys, ps = [p, q] ∧ FzK k p xs ∧ FzK k2 q ys ∧ Q (zipP xs ys) c1) : IW K (iZip2 K k k2 tl) ρ c Q := fun σ H as F w e R kk =>
  h σ H as F w e _ fun vs H1 as1 F1 ps c1 ⟨p, q, xs, ys, ep, f1, f2, hq⟩ w1 x1 r1 => by
    subst ep
    cases r1 with
    | cons r1 r2 =>
      cases r2 with
      | cons r2 r3 =>
        cases r3
        obtain ⟨a, vs, e1, s1, t1⟩ := f1.at r1
        obtain ⟨b, us, e2, s2, t2⟩ := f2.at r2
        subst e1 e2
        exact ⟨a, b, vs, us, rfl, SqK.ex w1.sub s1, SqK.ex w1.sub s2, kk _ H1 as1 F1 _ c1 hq w1 x1 (jok_zip s1 s2 t1 t2)⟩
theorem iw_enum2 {k : Bool} {Q : List P → List Ob → Prop} (h : AW K tl ρ c fun ps c1 => ∃ p xs, ps = [p] ∧ FzK k p xs ∧ Q (enumP 0 xs) c1) : IW K (iEnum2 K k tl) ρ c Q := fun σ H as F w e R kk =>
  h σ H as F w e _ fun vs H1 as1 F1 ps c1 ⟨p, xs, ep, f1, hq⟩ w1 x1 r1 => by
    subst ep
    cases r1 with
    | cons r1 r2 =>
      cases r2
      obtain ⟨a, vs, e1, s1, t1⟩ := f1.at r1
      subst e1
      exact ⟨a, vs, rfl, SqK.ex w1.sub s1, kk _ H1 as1 F1 _ c1 hq w1 x1 (jok_enum s1 t1)⟩
theorem ew_revT (h : EW K te ρ c fun p c1 => ∃ xs, p = .tup xs ∧ Q (.tup xs.reverse) c1) : EW K (tRevT K te) ρ c Q := fun σ H as F w e Q' k =>
  h σ H as F w e _ fun v H1 as1 F1 p c1 ⟨xs, ep, q⟩ w1 x1 r1 => by
    subst ep
    cases r1 with
    | @tup a vs _ h1 h2 =>
      refine ⟨a, vs, rfl, ex_t w1.sub h1, fun p hp => ?_⟩
      obtain ⟨w2, x2⟩ := w1.alloc hp (.tup vs.reverse)
      exact k _ _ as1 _ _ c1 q w2 (x1.trans x2) (.tup (st_of upd_same) (h2.xt x2).reverse)
theorem ew_revL (h : EW K te ρ c fun p c1 => ∃ xs, LstOf c1 p xs ∧ Q (.lst xs.reverse) c1) : EW K (tRevL K te) ρ c Q := fun σ H as F w e Q' k =>
  h σ H as F w e _ fun v H1 as1 F1 p c1 ⟨xs, hp, q⟩ w1 x1 r1 => by
    obtain ⟨a, vs, ev, hs, rr⟩ := hp.at w1 r1
    subst ev
    refine ⟨a, vs, rfl, hs, fun p hp => ?_⟩
    obtain ⟨w2, x2⟩ := w1.alloc hp (.lst vs.reverse)
    exact k _ _ as1 _ _ c1 q w2 (x1.trans x2) (.lst upd_same (rr.xt x2).reverse)
end
end PL

set_option Elab.async false
set_option linter.all false
set_option maxRecDepth 100000
set_option maxHeartbeats 2000000
namespace PL
open PySem PySem.Spec PyProof.Rows L2 Evl He
/-! ### defs that are called where no guard stands -/
structure FnG (P : Program) (w : World) (K : PySem.W.Frag) (mg : Str → Option Value) (base : Heap) (CX : CXT) (k : Nat) (f : Addr) (fd : FuncData) (ps : List Str) (sp : Sp) : Prop where
  len : ∀ (vs : List V) (H : Hp) (Q : VK) (E : XK), sp vs H Q E → vs.length = ps.length
  run : ∀ (A : Around) (outer : List PySem.Env) (s : Shared) (H : Hp) (args : Args) (us : List Value) (vs : List V) (Q : VK) (E : XK),
    A.guards = some [] → Room k A → Env0 P w K mg base A outer s H → BindsTo s fd args (ps.zip us) → Vals vs us → sp vs H Q E → codeAny (model P w) A (.call (.ref f) args) (CR CX outer P w H s Q E) s
theorem run_fnG {X : Cx} {CX : CXT} {k : Nat} {f : Addr} {fd : FuncData} {ps : List Str} {sp : Sp} {dvs : List V} {ds : List Value} {E : XK} {pins : List (Addr × Obj)} {σ : L2.St} {H : Hp} {s : Shared} {Q : VK} {us : List Value} {vs : List V}
    (F : FnG X.prog X.w X.K X.mg X.base CX k f fd ps sp) (hg : X.A.guards = some []) (hr : Room k X.A) (hb : Binds X.K fd ps ds) (hd : Vals dvs ds) (hx : Passes CX X E) (I : Inv X pins σ H s) (r : Vals vs us) (h : sp (vs ++ dvs) H Q E) :
    wpAny (model X.prog X.w) X.A (call (.ref f) us) (EP X pins σ Q) X.xe s := by
  have r2 := r.append hd
  have hl := F.len _ _ _ _ h
  rw [r2.length] at hl
  refine wpAny_call (codeAny_mono (F.run X.A X.stack s H { pos := us } (us ++ ds) (vs ++ dvs) Q E hg hr I.env0 (hb s us I.kIn hl) r2 h) fun r s' hq => ?_)
  match r, hq with
  | .error e, hq => exact hx pins σ H s e s' I hq
  | .ok (.ret u), hq => exact Inv.after I hq
  | .ok .next, hq => exact hq.elim
  | .ok .brk, hq => exact hq.elim
  | .ok .cont, hq => exact hq.elim
theorem pe_callG {X : Cx} {CX : CXT} {k : Nat} {f : Addr} {fd : FuncData} {ps : List Str} {sp : Sp} {dvs : List V} {ds : List Value} {E : XK} {x : Str} {p pos : Pos} {e : Expr} {es : List Expr} {t : TA}
    (F : FnG X.prog X.w X.K X.mg X.base CX k f fd ps sp) (hgd : X.A.guards = some []) (hr : Room k X.A) (hg : Gl X x) (hm : X.mg x = some (.ref f)) (hk : PySem.W.keepIn X.K (.ref f) = true) (hb : Binds X.K fd ps ds) (hd : Vals dvs ds) (hx : Passes CX X E) (ha : PA X (e :: es) t)
    (hdb : (x == ("__debug__" : Str)) = false := by decide) (he : starEach (e :: es) X.env = (false, eval e X.env) :: starEach es X.env := by rfl) (hpl : (backTo pos (starEach es X.env)).any (·.1) = false := by rfl) :
    PE X (.Call (.Name x p) (e :: es) [] pos) (tCall sp dvs E t) :=
  ⟨fun pins s σ H Q I h => wpAny_Call_Name_kw (ld_glob I hg hm (PySem.W.callWith_K I.ok.mod.kin hk (thn (ha.run pos pins s σ H (fun vs H1 => sp (vs ++ dvs) H1 Q E) I h) fun us s1 ⟨vs, H1, I1, r, q⟩ => ⟨I1.kIn, run_fnG F hgd hr hb hd hx I1 r q⟩) he hpl) hdb)⟩
theorem fn_ofG {CX : CXT} {P : Program} {w : World} {K : PySem.W.Frag} {mg : Str → Option Value} {base : Heap} {k : Nat} {f : Addr} {name qual : Str} {params : Arguments} {body : List Stmt} {scope : Scope} {dV kV doc pm cdv ct oc : Value} {an od : Option Addr} {osl : Array (Option Value)} {N ps : List Str} {sp : Sp}
    (lk : List.lookup f K = some { cls := oc, dict := od, data := .func (PySem.W.fnOf name qual params body scope dV kV doc pm an cdv ct), slots := osl }) (hcd : PySem.W.codeIn K cdv qual = true) (S : FnScope N ps scope)
    (len : ∀ (vs : List V) (H : Hp) (Q : VK) (E : XK), sp vs H Q E → vs.length = ps.length)
    (hbody : ∀ (A : Around) (outer : List PySem.Env) (s : Shared) (H : Hp) (vs : List V) (Q : VK) (E : XK), A.guards = some [] → Room k (A.deeper (envOfC qual scope s.heap.objs.size f cdv)) → sp vs H Q E →
      ∃ t, PSs (cxOf CX P w K mg base N qual scope f cdv A outer s H E) body t ∧ t { nx := fun _ H' => Q .non H', rt := Q } (L2.start N vs) H) :
    FnG P w K mg base CX (k + 1) f (PySem.W.fnOf name qual params body scope dV kV doc pm an cdv ct) ps sp := by
  refine ⟨len, fun A outer s H args us vs Q E hgd hr e0 hb r hsp => ?_⟩
  have hl := len vs H Q E hsp
  have KX := PySem.W.Frag.In.keeps e0.mod.kin fun b o e => (e0.bs b o e).left
  have lim := Heap.NoLimit.keeps e0.mod.nolimit fun b o e => (e0.bs b o e).left
  refine codeAny_call_function hr.depth (KX f _ lk) rfl S.co S.gen rfl (PySem.W.codeRec_of KX hcd) (hb (model P w) A.in1 (fun e s' => CR CX outer P w H s Q E (.error e) s') (fun binds s₁ => wpAny (model P w) A.in1 (newFunctionEnv _ _ _ binds _ _ _ _ _) (fun env s₂ => s₂.heap.NoLimit ∧ codeAny (model P w) A (.func body env) (CR CX outer P w H s Q E) s₂) (fun e s' => CR CX outer P w H s Q E (.error e) s') s₁) (wpAny_newFunctionEnv_cells S.kind (fun x hy => ?_) fun env he s1 x => ?_))
  · rcases S.par x.1 (List.of_mem_zip (a := x.1) (b := x.2) hy).left with q | q
    · exact .inl q
    · exact .inr ⟨q, PySem.W.cellsFrom_some scope.names (s.heap.objs.size + 1) [] (.inl q)⟩
  · subst he
    refine ⟨Heap.NoLimit.keeps lim x.toInCall.keep, codeAny_func ?_⟩
    obtain ⟨t, ht, hq⟩ := hbody A outer s H vs Q E hgd (Room.deeper hr (envOfC qual scope s.heap.objs.size f cdv)) hsp
    have I := inv_start (CX := CX) (E := E) S hr.hd e0 hl r x
    refine wpAny_mono (ht.run [] s1 (L2.start N vs) H { nx := fun _ H' => Q .non H', rt := Q } I hq) (fun fl s' hs => ?_) fun e s' hs => hs
    match fl, hs with
    | .next, hs =>
      obtain ⟨σ', H', J, q⟩ := hs
      exact ⟨.non, H', J.os, J.bare, J.base, J.hok, rfl, q⟩
    | .brk, hs => obtain ⟨_, _, _, q⟩ := hs; exact q.elim
    | .cont, hs => obtain ⟨_, _, _, q⟩ := hs; exact q.elim
    | .ret u, hs =>
      obtain ⟨v, σ', H', J, rv, q⟩ := hs
      exact ⟨v, H', J.os, J.bare, J.base, J.hok, rv, q⟩
theorem law_callG {P : Program} {w : World} {K : PySem.W.Frag} {mg mb : Str → Option Value} {CX : CXT} {k : Nat} {fa a : Addr} {fd : FuncData} {x : Str} {sp : Sp} {s₁ : Shared} {vs : List Value} {ns : List Int}
    (KX : K.In s₁.heap) (hns : s₁.heap.Ns mainGlobals mg) (hb : s₁.heap.Ns builtinsNs mb) (hbb : ∀ x : Str, x ≠ ("__name__" : Str) → mb x = bootBuiltins x) (hlim : s₁.heap.NoLimit) (hg : s₁.gens = #[])
    (ha : s₁.heap.get? a = some { cls := .type "list", data := .seq vs.toArray }) (hi : IntsAre vs ns) (hl : ns.length ≤ sizeLine) (hr : Room k callerA)
    (F : ∀ base : Heap, K.In base → base.Ns mainGlobals mg → FnG P w K mg base CX k fa fd [x] sp) (hbind : ∀ (s : Shared) (u : Value), BindsTo s fd { pos := [u] } [(x, u)])
    (hsp : ∀ H : Hp, Only H → SqL K H a (ns.map V.int) → sp [.ref a] H (fun v _ => v = .bl true) fun _ _ _ => False) (hCX : ∀ (H : Hp) (e : Value) (s' : Shared), CX [] H s₁ (fun _ _ _ => False) e s' → False) :
    codeAny (model P w) callerA (.call (.ref fa) { pos := [.ref a] }) (fun r s' => r = .ok (.ret (.bool true)) ∧ OldK s₁.heap s'.heap ∧ s'.os = s₁.os ∧ AllBare s'.gens) s₁ := by
  have rv := vals_ints hi
  have lenV := hi.length
  have core : ∀ H : Hp, Only H → SqL K H a (ns.map V.int) → HOk P w H s₁.heap → (∀ b : Addr, H b ≠ none → b = a) → (H a ≠ none → List.lookup a K = none) →
      codeAny (model P w) callerA (.call (.ref fa) { pos := [.ref a] }) (fun r s' => r = .ok (.ret (.bool true)) ∧ OldK s₁.heap s'.heap ∧ s'.os = s₁.os ∧ AllBare s'.gens) s₁ := by
    intro H hO hS hok hA hK
    have noA : ∀ {b : Addr} {o : Obj} {es : Array DictEntry} {ep : Nat}, s₁.heap.get? b = some o → o.data = .dict es ep → H b = none := fun {b o es ep} e d => by
      cases q : H b with
      | none => rfl
      | some u =>
        have e' := hA b (by rw [q]; exact fun z => by cases z)
        subst e'
        rw [ha] at e; cases e
        cases d
    have nsK : ∀ {b : Addr} {m : Str → Option Value}, s₁.heap.Ns b m → (hidT s₁.heap H).Ns b m := fun {b m} ⟨o, es, ep, e, d, r⟩ => ⟨o, es, ep, hidT_get e (noA e d), d, r⟩
    have hKb : K.In (hidT s₁.heap H) := fun b o e => hidT_get (KX b o e) (by
      cases q : H b with
      | none => rfl
      | some u =>
        have e' := hA b (by rw [q]; exact fun z => by cases z)
        subst e'
        have := hK (by rw [q]; exact fun z => by cases z)
        rw [this] at e; cases e)
    obtain ⟨mc, n1, n2⟩ := hlim
    have hM : Mod K mg (hidT s₁.heap H) := ⟨hKb, nsK hns, ⟨mb, nsK hb, hbb⟩, ⟨mc, nsK n1, n2⟩⟩
    have e0 : Env0 P w K mg (hidT s₁.heap H) callerA [] s₁ H := ⟨rfl, hM, fun b o e => of_hidT e, Nat.le_of_eq (hidT_size _ _), trivial, fun b hb => absurd hb (by show ¬ b ∈ ([] : List Addr); exact List.not_mem_nil), hok, AllBare.of_eq hg⟩
    refine codeAny_mono ((F _ hKb (nsK hns)).run callerA [] s₁ H { pos := [.ref a] } [.ref a] [.ref a] (fun v _ => v = .bl true) (fun _ _ _ => False) rfl hr e0 (hbind s₁ _) (.cons rfl .nil) (hsp H hO hS)) fun r s' h => ?_
    match r, h with
    | .error e, h => exact (hCX H e s' h).elim
    | .ok .next, h => exact h.elim
    | .ok .brk, h => exact h.elim
    | .ok .cont, h => exact h.elim
    | .ok (.ret u), h =>
      obtain ⟨v, H', os, bare, un, hok', r', q⟩ := h
      subst q
      cases r'
      refine ⟨rfl, OldK.of_keep fun b o e => ?_, os, bare⟩
      cases q : H b with
      | none => exact un.keep b o e q (fun z => absurd (show b ∈ ([] : List Addr) from z) List.not_mem_nil) List.not_mem_nil
      | some u =>
        rcases hO b with z | ⟨ob, xs, z⟩
        · rw [q] at z; cases z
        · have e' := hA b (by rw [q]; exact fun z => by cases z)
          subst e'
          obtain ⟨h1, _⟩ : s₁.heap.get? b = some ob ∧ _ := by
            have := hok b _ z
            simp only [L2.ObjOk] at this
            exact this
          have h2 := hok' b _ (un.frzs b _ _ z)
          simp only [L2.ObjOk] at h2
          rw [h1] at e; cases e
          exact h2.1
  cases hk : List.lookup a K with
  | none =>
    refine core (fun b => if b = a then some (.frz { cls := .type "list", data := .seq vs.toArray } (.lst (ns.map V.int))) else none) (fun b => ?_) (.inl (.inr ⟨_, if_pos rfl⟩)) (fun b u z => ?_) (fun b z => ?_) fun _ => hk
    · by_cases hb : b = a
      · exact .inr ⟨_, _, if_pos hb⟩
      · exact .inl (if_neg hb)
    · by_cases hb : b = a
      · subst hb
        dsimp only at z
        rw [if_pos rfl] at z; cases z
        simp only [L2.ObjOk]
        exact ⟨ha, by rw [List.length_map]; exact hl, vs, 0, rv, ha⟩
      · dsimp only at z
        rw [if_neg hb] at z; cases z
    · by_cases hb : b = a
      · exact hb
      · exact absurd (if_neg hb) z
  | some o =>
    have e := KX a o hk
    rw [ha] at e; cases e
    refine core (fun _ => none) (fun _ => .inl rfl) (.inr ⟨_, vs.toArray, 0, hk, rfl, rfl, rfl, by rw [List.size_toArray, lenV]; exact hl, rv⟩) (fun b u z => by cases z) (fun b z => absurd rfl z) fun z => absurd rfl z
open PySem.W in
theorem walk_ofG {l : OpenLaw} {n k : Nat} {q : Program} {loose : List Str} {XP : (Str → Option Value) → Heap → Prop} {YP : World → Heap → Prop} {d : DefRec} {CX : CXT} {x : Str} (hn : l.most = some n) (hn2 : n ≤ sizeLine) (hdf : d.params.defaults = []) (hr : Room k callerA)
    (F : ∀ (w : World) (mg : Str → Option Value) (fa : Addr) (h : Heap), YP w h → h.Ns mainGlobals mg → mg d.name = some (.ref fa) → ∃ K fd sp, PySem.W.Frag.In K h ∧ (∀ (s : Shared) (u : Value), BindsTo s fd { pos := [u] } [(x, u)]) ∧
      (∀ (H : Hp) (a : Addr) (ns : List Int), ns.length ≤ n → Only H → SqL K H a (ns.map V.int) → sp [.ref a] H (fun v _ => v = .bl true) fun _ _ _ => False) ∧ ∀ base : Heap, PySem.W.Frag.In K base → base.Ns mainGlobals mg → FnG l.prog w K mg base CX k fa fd [x] sp)
    (hCX : ∀ (H : Hp) (s : Shared) (e : Value) (s' : Shared), CX [] H s (fun _ _ _ => False) e s' → False) : WalkO q loose XP YP l.row.toRowW d [] fun f vs => call f vs := by
  refine Att.attach_call hn hdf fun w s₀ s₁ mg mb fa o pm cd doc a vs ns G Y ho hd hcd hmg hobj hints hlen hg => ?_
  obtain ⟨K, fd, sp, KX, hb, hsp, hF⟩ := F w mg fa s₁.heap Y G.T.g hmg
  exact law_callG KX G.T.g G.T.b G.T.builtins G.T.nolimit hg hobj hints (Nat.le_trans hlen hn2) hr hF hb (fun H hO hS => hsp H a ns hlen hO hS) fun H e s' => hCX H s₁ e s'
theorem okG {P : Program} {w : World} {K : PySem.W.Frag} {mg : Str → Option Value} {base : Heap} {x qual : Str} {params : Arguments} {body : List Stmt} {scope : Scope} {dvs : List V} {kws : List (Str × V)} {f : Addr} {fd : FuncData} {CX : CXT} {N ps : List Str} {k : Nat} {sp : Sp}
    (F : FunD K x qual params body scope dvs kws f fd) (S : FnScope N ps scope) (len : ∀ (vs : List V) (H : Hp) (Q : VK) (E : XK), sp vs H Q E → vs.length = ps.length)
    (hbody : ∀ (cdv : Value) (A : Around) (outer : List PySem.Env) (s : Shared) (H : Hp) (vs : List V) (Q : VK) (E : XK), A.guards = some [] → Room k (A.deeper (envOfC qual scope s.heap.objs.size f cdv)) → sp vs H Q E →
      ∃ t, PSs (cxOf CX P w K mg base N qual scope f cdv A outer s H E) body t ∧ t { nx := fun _ H' => Q .non H', rt := Q } (L2.start N vs) H) : FnG P w K mg base CX (k + 1) f fd ps sp := by
  obtain ⟨oc, od, dV, kV, doc, pm, an, cdv, ct, osl, rfl, lk, hcd, _, _⟩ := F.ex
  exact fn_ofG lk hcd S len fun A outer s H vs Q E hg hr hsp => hbody cdv A outer s H vs Q E hg hr hsp
/-- a def whose promise holds where no guard stands -/
structure ClG (P₀ : Program) (w : World) (K : PySem.W.Frag) (mg : Str → Option Value) (base : Heap) (k : Nat) (x : Str) (S : PSp) : Prop where
  ex : ∃ (f : Addr) (fd : FuncData) (ps : List Str), FnG P₀ w K mg base CX0 k f fd ps (SpOf K S) ∧ mg x = some (.ref f) ∧ PySem.W.keepIn K (.ref f) = true ∧ Binds K fd ps []
theorem FnG.mono {P₀ : Program} {w : World} {K : PySem.W.Frag} {mg : Str → Option Value} {base : Heap} {CX : CXT} {j k : Nat} {f : Addr} {fd : FuncData} {ps : List Str} {sp : Sp} (F : FnG P₀ w K mg base CX j f fd ps sp) (h : j ≤ k) : FnG P₀ w K mg base CX k f fd ps sp :=
  ⟨F.len, fun A outer s H args us vs Q E hg hr => F.run A outer s H args us vs Q E hg (hr.mono h)⟩
theorem pe_clG {P₀ : Program} {w : World} {K : PySem.W.Frag} {mg : Str → Option Value} {base : Heap} {X : Cx} {k j : Nat} {x : Str} {S : PSp} {p pos : Pos} {e : Expr} {es : List Expr} {t : TA} (c : ClG P₀ w K mg base k x S) (hX : X.prog = P₀ ∧ X.w = w ∧ X.K = K ∧ X.mg = mg ∧ X.base = base) (hgd : X.A.guards = some []) (hr : Room j X.A) (hk : k ≤ j) (hg : Gl X x) (ha : PA X (e :: es) t)
    (hdb : (x == ("__debug__" : Str)) = false := by decide) (he : starEach (e :: es) X.env = (false, eval e X.env) :: starEach es X.env := by rfl) (hpl : (backTo pos (starEach es X.env)).any (·.1) = false := by rfl) :
    PE X (.Call (.Name x p) (e :: es) [] pos) (tCall (SpOf K S) [] E0 t) := by
  obtain ⟨rfl, rfl, rfl, rfl, rfl⟩ := hX
  obtain ⟨f, fd, ps, F, hm, kp, b⟩ := c.ex
  exact pe_callG F hgd (hr.mono hk) hg hm kp b .nil pass0 ha hdb he hpl
theorem ClG.mono {P₀ : Program} {w : World} {K : PySem.W.Frag} {mg : Str → Option Value} {base : Heap} {j k : Nat} {x : Str} {S : PSp} (c : ClG P₀ w K mg base j x S) (h : j ≤ k) : ClG P₀ w K mg base k x S := by
  obtain ⟨f, fd, ps, F, r⟩ := c.ex
  exact ⟨f, fd, ps, F.mono h, r⟩
theorem pfnFG {K : PySem.W.Frag} {P₀ : Program} {w : World} {mg : Str → Option Value} {base : Heap} {x : Str} {st : Stmt} {N ps : List Str} {k : Nat} {S : PSp} {f : Addr} {fd : FuncData} (F : FunD K x x (defArgs st) (defBody st) (defScope st) [] [] f fd) (sc : FnScope N ps (defScope st))
    (hl : ∀ qs c Q, S qs c Q → qs.length = ps.length)
    (body : ∀ (f : Addr) (cdv : Value) (A : Around) (outer : List PySem.Env) (s : Shared) (H : Hp) (E : XK), A.guards = some [] → Room k (A.deeper (envOfC x (defScope st) s.heap.objs.size f cdv)) →
      ∃ t, PSs (cxOf CX0 P₀ w K mg base N x (defScope st) f cdv A outer s H E).nox (defBody st) t ∧ ∀ qs c Q, S qs c Q → (∀ o ∈ c, Ob.bel c.length o = true) → SW K t (startP N qs) c { nx := fun _ c' => RtOk c Q .non c', rt := RtOk c Q }) :
    FnG P₀ w K mg base CX0 (k + 1) f fd ps (SpOf K S) := by
  refine okG F sc (fun vs H Q E h => ?_) (fun cdv A outer s H vs Q E hgd hr h => ?_)
  · obtain ⟨as, F, c, qs, Qp, w, r, hs, _⟩ := h
    rw [r.length]; exact hl qs c Qp hs
  · obtain ⟨as, F, c, qs, Qp, w, r, hs, kk⟩ := h
    obtain ⟨t, hp, hw⟩ := body f cdv A outer s H E hgd hr
    refine ⟨t, hp.nox, hw qs c Qp hs w.bel (L2.start N vs) H as F w (env_start r) _ ⟨fun σ' H' as' F' ρ' c' q w' x' e' => ?_, fun v H' as' F' p c' q w' x' r' => ?_, fun _ _ _ _ _ _ q => q.elim, fun _ _ _ _ _ _ q => q.elim⟩⟩
    · obtain ⟨as2, c2, q2, w2, x2, r2⟩ := reach (S := S) (qs := qs) (vs := vs) w q w' x' (.non)
      exact kk _ H' as2 F' _ c2 q2 w2 x2 r2
    · obtain ⟨as2, c2, q2, w2, x2, r2⟩ := reach (S := S) (qs := qs) (vs := vs) w q w' x' r'
      exact kk v H' as2 F' p c2 q2 w2 x2 r2
theorem pfnG {K : PySem.W.Frag} {P₀ : Program} {w : World} {mg : Str → Option Value} {base : Heap} {x : Str} {st : Stmt} {N ps : List Str} {k : Nat} {S : PSp} (Fn : DefAt K mg x st) (sc : FnScope N ps (defScope st))
    (hb : ∀ (kV doc pm : Value) (an : Option Addr) (cdv ct : Value) (us : List Value), us.length = ps.length → bindArgs (PySem.W.fnOf x x (defArgs st) (defBody st) (defScope st) .none kV doc pm an cdv ct) ⟨us, []⟩ = pure (ps.zip us))
    (hl : ∀ qs c Q, S qs c Q → qs.length = ps.length)
    (body : ∀ (f : Addr) (cdv : Value) (A : Around) (outer : List PySem.Env) (s : Shared) (H : Hp) (E : XK), A.guards = some [] → Room k (A.deeper (envOfC x (defScope st) s.heap.objs.size f cdv)) →
      ∃ t, PSs (cxOf CX0 P₀ w K mg base N x (defScope st) f cdv A outer s H E).nox (defBody st) t ∧ ∀ qs c Q, S qs c Q → (∀ o ∈ c, Ob.bel c.length o = true) → SW K t (startP N qs) c { nx := fun _ c' => RtOk c Q .non c', rt := RtOk c Q }) :
    ClG P₀ w K mg base (k + 1) x S := by
  obtain ⟨f, fd, F, hm⟩ := Fn.ex
  exact ⟨f, fd, ps, pfnFG F sc hl body, hm, F.kp, F.bindsN hb⟩
/-- repr of what is data -/
def rRepr (K : PySem.W.Frag) (vs : List V) (H : Hp) (Q : VK) : Prop := ∃ (a : Addr) (d : PyData), vs = [.ref a] ∧ Dp K H (.ref a) d ∧ d.showable = true ∧ d.hasDict = false ∧ d.depth ≤ 60 ∧ d.shown.length ≤ sizeLine ∧ Q (.str d.shown) H
theorem cr_repr {X : Cx} {K : PySem.W.Frag} (hK : X.K = K) (hg : X.A.guards = some []) (hu : X.A.units + 64 < cLine) : CallR X (.builtin "repr") (rRepr K) := by
  subst hK
  intro pins s σ H vs us Q I r h
  obtain ⟨a, d, rfl, dp, h1, h2, h3, h4, q⟩ := h
  cases r with
  | cons r rr =>
    cases rr
    obtain ⟨as, rd⟩ := Dp.reads I d (.ref a) _ dp r
    cases r
    refine repr_of_reads' rd h1 (fun z => by rw [h2] at z; cases z) hg (by omega) (fun _ _ e => e) (fun h' u tk k => ?_) h4
    exact ⟨.str d.shown, H, I.kept (t' := tk) k, ⟨u, rfl⟩, q⟩
/-- repr of a list of truths -/
def boolsD (bs : List Bool) : PyData := .list (bs.map PyData.bool)
section
variable {K : PySem.W.Frag} {F H : Hp} {as : List Addr} {c : List Ob} {ρ : PR} {Q : PQ} {te : TE}
theorem datas_bools : ∀ bs : List Bool, datas (bs.map P.bl) = true
  | [] => rfl
  | b :: bs => by
    show ((P.bl b).data && datas (bs.map P.bl)) = true
    rw [datas_bools bs]; rfl
theorem toDs_bools : ∀ bs : List Bool, toDs (bs.map P.bl) = bs.map PyData.bool
  | [] => rfl
  | b :: bs => by
    show (P.bl b).toD :: toDs (bs.map P.bl) = _
    rw [toDs_bools bs]; rfl
theorem ew_repr2 {x y : Bool} (h : EW K te ρ c fun p c1 => p = .lst [.bl x, .bl y] ∧ Q (.str (boolsD [x, y]).shown) c1) : EW K (tCB (rRepr K) (tCons te tNil)) ρ c Q :=
  ew_cb1 (h.mono fun p c1 ⟨ep, q⟩ v H1 as1 F1 w1 r1 Q' k => by
    subst ep
    have dp := r1.dp w1.sub (show (P.lst [.bl x, .bl y]).data = true by cases x <;> cases y <;> rfl)
    cases r1 with
    | @lst a xs _ h1 h2 =>
      refine ⟨a, boolsD [x, y], rfl, dp, ?_, ?_, ?_, ?_, k _ H1 as1 F1 _ c1 q w1 Xt.refl (.str _)⟩
      · cases x <;> cases y <;> rfl
      · cases x <;> cases y <;> rfl
      · cases x <;> cases y <;> decide
      · rw [sizeLine_eq]
        cases x <;> cases y <;> decide +kernel)
theorem shown_ne : ∀ x y : Bool, (decide ((boolsD [x, y]).shown = (boolsD [true, false]).shown)) = (x && !y) := by
  intro x y
  cases x <;> cases y <;> decide +kernel
end
end PL

set_option Elab.async false
set_option linter.all false
set_option maxRecDepth 100000
set_option maxHeartbeats 2000000
namespace PL
open PySem PySem.Spec PyProof.Rows L2 Evl
/-! ### what is walked may be a cell, as long as it stays the same -/
def JOkC (K : PySem.W.Frag) (J : It) (F : Hp) (as : List Addr) (items : List P) (Sm : List Ob → Prop) : Prop :=
  ∀ i H2 as2 F2 c2, Wd K H2 as2 F2 c2 → Ex F F2 → as <+: as2 → Sm c2 →
    (items.length ≤ i → J.stop i H2) ∧ ∀ p, items[i]? = some p → J.go i H2 ∧ ∀ x H3, J.yld i H2 x H3 → ∃ F3, Wd K H3 as2 F3 c2 ∧ Xt H2 as2 F2 H3 as2 F3 ∧ Rep K F3 as2 x p
def IWC (K : PySem.W.Frag) (wi : TI) (ρ : PR) (c : List Ob) (Q : List P → (List Ob → Prop) → List Ob → Prop) : Prop :=
  ∀ σ H as F, Wd K H as F c → Env K F as σ ρ → ∀ R : It → Hp → Prop, (∀ J H' as' F' items Sm c', Q items Sm c' → Wd K H' as' F' c' → Xt H as F H' as' F' → JOkC K J F' as' items Sm → R J H') → wi σ H R
section
variable {K : PySem.W.Frag} {F H : Hp} {as : List Addr} {c : List Ob} {ρ : PR} {Q : PQ} {D : PEnds} {te ta tb : TE} {tt t1 t2 : TT} {tl : TA}
theorem IWC.mono {wi : TI} {Q1 Q2 : List P → (List Ob → Prop) → List Ob → Prop} (h : IWC K wi ρ c Q1) (i : ∀ its Sm c', Q1 its Sm c' → Q2 its Sm c') : IWC K wi ρ c Q2 := fun σ H as F w e R k => h σ H as F w e R fun J H' as' F' its Sm c' q => k J H' as' F' its Sm c' (i its Sm c' q)
theorem ew_lcC {wi : TI} {g : TG} {vs : List Nat} (hg : GC g vs) (h : IWC K wi ρ c fun items Sm c1 => items.length ≤ 100000 ∧ ∃ Pv : Nat → List P → List Ob → Prop, Pv 0 [] c1 ∧ (∀ i acc c', Pv i acc c' → Sm c') ∧
      (∀ i p acc c', items[i]? = some p → Pv i acc c' → GW K g p (wipeP ρ vs) c' fun ρ2 c2 => TW K tt ρ2 c2 fun b c3 => (b = true → EW K te ρ2 c3 fun y c4 => Pv (i + 1) (acc ++ [y]) c4) ∧ (b = false → Pv (i + 1) acc c3)) ∧
      ∀ acc c', Pv items.length acc c' → Q (.lst acc) c') : EW K (tLc wi g tt te vs) ρ c Q := fun σ H as F w e Q' k =>
  h σ H as F w e _ fun J H1 as1 F1 items Sm c1 ⟨hlen, Pv, h0, hsm, hs, hd⟩ w1 x1 hJ Dl hD => by
    have nD : Dl ∉ as1 := w1.new hD
    have fD : F1 Dl = none := fresh_back w1.sub hD
    have e1 := e.xt x1
    refine ⟨fun i m H' => i + m = items.length ∧ ∃ as' F' acc xs c', Pv i acc c' ∧ acc.length ≤ i ∧ Wd K H' as' F' c' ∧ Xt H1 as1 F1 H' as' F' ∧ H' Dl = some (.lst xs) ∧ Dl ∉ as' ∧ F' Dl = none ∧ Reps K F' as' xs acc,
      ⟨items.length, Nat.zero_add _, as1, F1, [], [], c1, h0, Nat.le_refl 0, w1.priv nD fD _, Xt.refl.priv hD _, upd_same, nD, fD, .nil⟩, fun i m H2 ⟨im, as2, F2, acc, xs, c2, q2, la, w2, x2, hH, nD2, fD2, r2⟩ => ?_⟩
    obtain ⟨js, jg⟩ := hJ i H2 as2 F2 c2 w2 x2.mono x2.pre (hsm i acc c2 q2)
    by_cases hi : i < items.length
    · obtain ⟨j1, j2⟩ := jg _ (List.getElem?_eq_getElem hi)
      refine .inr ⟨j1, fun H' => ∃ as' F' acc xs c', Pv (i + 1) acc c' ∧ acc.length ≤ i + 1 ∧ Wd K H' as' F' c' ∧ Xt H1 as1 F1 H' as' F' ∧ H' Dl = some (.lst xs) ∧ Dl ∉ as' ∧ F' Dl = none ∧ Reps K F' as' xs acc,
        fun H' ⟨as', F', acc', xs', c', q'⟩ => ⟨m - 1, by omega, by omega, as', F', acc', xs', c', q'⟩, fun x H3 hy => ?_⟩
      obtain ⟨F3, w3, x3, r3⟩ := j2 x H3 hy
      have priv : ∀ {H4 : Hp} {as4 : List Addr} {F4 : Hp}, Xt H2 as2 F2 H4 as4 F4 → H4 Dl = some (.lst xs) ∧ Dl ∉ as4 ∧ F4 Dl = none := fun {H4 as4 F4} y => by
        refine ⟨y.frame _ _ hH nD2, fun hm => ?_, ?_⟩
        · rcases y.fresh _ hm with z | z
          · exact nD2 z
          · rw [hH] at z; cases z
        · cases ef : F4 Dl with
          | none => rfl
          | some o =>
            rcases y.own _ _ ef with z | z | z
            · rw [fD2] at z; cases z
            · rw [hH] at z; cases z
            · exact absurd z nD2
      refine hg x σ (L2.wipe σ vs) H3 (fun σ4 H4 => tt σ4 H4 fun b H5 => if b = true then te σ4 H5 fun y H6 => ∃ acc, H6 Dl = some (.lst acc) ∧ acc.length < sizeLine ∧
          (∃ as' F' acc' xs' c', Pv (i + 1) acc' c' ∧ acc'.length ≤ i + 1 ∧ Wd K (upd H6 Dl (.lst (acc ++ [y]))) as' F' c' ∧ Xt H1 as1 F1 (upd H6 Dl (.lst (acc ++ [y]))) as' F' ∧ (upd H6 Dl (.lst (acc ++ [y]))) Dl = some (.lst xs') ∧ Dl ∉ as' ∧ F' Dl = none ∧ Reps K F' as' xs' acc')
          else (∃ as' F' acc' xs' c', Pv (i + 1) acc' c' ∧ acc'.length ≤ i + 1 ∧ Wd K H5 as' F' c' ∧ Xt H1 as1 F1 H5 as' F' ∧ H5 Dl = some (.lst xs') ∧ Dl ∉ as' ∧ F' Dl = none ∧ Reps K F' as' xs' acc')) _ (wipe_wipe σ vs) ?_ fun σ2 H4 q e => ⟨e, q⟩
      refine hs i _ acc c2 (List.getElem?_eq_getElem hi) q2 x (L2.wipe σ vs) H3 as2 F3 w3 ((e1.xt (x2.trans x3)).wipe vs) r3 _ fun σ4 H4 as4 F4 ρ4 c4 q4 w4 x4 e4 => ?_
      refine q4 σ4 H4 as4 F4 w4 e4 _ fun b H5 as5 F5 c5 ⟨y1, y2⟩ w5 x5 => ?_
      have x25 := (x3.trans x4).trans x5
      cases b with
      | false =>
        obtain ⟨z1, z2, z3⟩ := priv x25
        exact ⟨as5, F5, acc, xs, c5, y2 rfl, by omega, w5, x2.trans x25, z1, z2, z3, r2.xt x25⟩
      | true =>
        refine y1 rfl σ4 H5 as5 F5 w5 (e4.xt x5) _ fun v H6 as6 F6 p c6 q6 w6 x6 r6 => ?_
        have x26 := x25.trans x6
        obtain ⟨z1, z2, z3⟩ := priv x26
        have lx : xs.length = acc.length := r2.length
        exact ⟨xs, z1, sz_lt (by omega), as6, F6, acc ++ [p], xs ++ [v], c6, q6, by rw [List.length_append]; exact Nat.add_le_add_right la 1, w6.priv z2 z3 _, (x2.trans x26).priv hD _, upd_same, z2, z3, (r2.xt x26).append (.cons r6 .nil)⟩
    · have hi' : i = items.length := by omega
      refine .inl ⟨js (by omega), k _ H2 as2 (upd F2 Dl (.lst xs)) _ c2 (hd acc c2 (hi' ▸ q2)) (w2.keep nD2 hH fD2) (x1.trans (x2.keep hD fD2 _)) (.lst upd_same (r2.mono (Ex.new fD2) List.prefix_rfl))⟩
theorem sw_forC {wi : TI} {g : TG} {tb : TS} (h : IWC K wi ρ c fun items Sm c1 => ∃ Pv : Nat → PR → List Ob → Prop, Pv 0 ρ c1 ∧ (∀ i ρ' c', Pv i ρ' c' → Sm c') ∧
      (∀ i p ρ' c', items[i]? = some p → Pv i ρ' c' → GW K g p ρ' c' fun ρ2 c2 => SW K tb ρ2 c2 { D with nx := Pv (i + 1), ct := Pv (i + 1), bk := D.nx }) ∧ ∀ ρ' c', Pv items.length ρ' c' → D.nx ρ' c') : SW K (tFor wi g tb) ρ c D := fun σ H as F w e D' k =>
  h σ H as F w e _ fun J H1 as1 F1 items Sm c1 ⟨Pv, h0, hsm, hs, hd⟩ w1 x1 hJ => by
    refine ⟨fun i m σ' H' => i + m = items.length ∧ ∃ as' F' ρ' c', Pv i ρ' c' ∧ Wd K H' as' F' c' ∧ Xt H1 as1 F1 H' as' F' ∧ Env K F' as' σ' ρ', ⟨items.length, Nat.zero_add _, as1, F1, ρ, c1, h0, w1, Xt.refl, e.xt x1⟩, fun i m σ2 H2 ⟨im, as2, F2, ρ2, c2, q2, w2, x2, e2⟩ => ?_⟩
    obtain ⟨js, jg⟩ := hJ i H2 as2 F2 c2 w2 x2.mono x2.pre (hsm i ρ2 c2 q2)
    by_cases hi : i < items.length
    · obtain ⟨j1, j2⟩ := jg _ (List.getElem?_eq_getElem hi)
      refine .inr ⟨j1, fun σ' H' => ∃ as' F' ρ' c', Pv (i + 1) ρ' c' ∧ Wd K H' as' F' c' ∧ Xt H1 as1 F1 H' as' F' ∧ Env K F' as' σ' ρ', fun σ' H' ⟨as', F', ρ', c', q', w', x', e'⟩ => ⟨m - 1, by omega, by omega, as', F', ρ', c', q', w', x', e'⟩, fun x H3 hy => ?_⟩
      obtain ⟨F3, w3, x3, r3⟩ := j2 x H3 hy
      refine hs i _ ρ2 c2 (List.getElem?_eq_getElem hi) q2 x σ2 H3 as2 F3 w3 (e2.xt x3) r3 _ fun σ4 H4 as4 F4 ρ4 c4 q4 w4 x4 e4 => ?_
      have kk := k.xt (((x1.trans x2).trans x3).trans x4)
      have nk : NxOk K H4 as4 F4 (Pv (i + 1)) fun σ' H' => ∃ as' F' ρ' c', Pv (i + 1) ρ' c' ∧ Wd K H' as' F' c' ∧ Xt H1 as1 F1 H' as' F' ∧ Env K F' as' σ' ρ' :=
        fun σ' H' as' F' ρ' c' q' w' x' e' => ⟨as', F', ρ', c', q', w', ((x2.trans x3).trans x4).trans x', e'⟩
      exact q4 σ4 H4 as4 F4 w4 e4 _ ⟨nk, kk.rt, kk.nx, nk⟩
    · have hi' : i = items.length := by omega
      exact .inl ⟨js (by omega), k.nx σ2 H2 as2 F2 ρ2 c2 (hd ρ2 c2 (hi' ▸ q2)) w2 (x1.trans x2) e2⟩
theorem ew_lcTC {α : Type} {wi : TI} {g : TG} {vs : List Nat} (inj : α → P) (xs : List α) (f : α → Bool) (v : α → P) (hg : GC g vs) (hI : IWC K wi ρ c fun items Sm c1 => items = xs.map inj ∧ c1 = c ∧ Sm c) (hz : xs.length ≤ 100000)
    (turn : ∀ x, x ∈ xs → GW K g (inj x) (wipeP ρ vs) c fun ρ2 c2 => c2 = c ∧ TW K tt ρ2 c (fun b c3 => b = f x ∧ c3 = c) ∧ (f x = true → EW K te ρ2 c fun y c4 => y = v x ∧ c4 = c)) (q : Q (.lst ((xs.filter f).map v)) c) : EW K (tLc wi g tt te vs) ρ c Q := by
  refine ew_lcC hg (hI.mono fun items Sm c1 ⟨e1, e2, hsm⟩ => ?_)
  subst e1 e2
  refine ⟨by rw [List.length_map]; exact hz, fun i acc c' => acc = ((xs.take i).filter f).map v ∧ c' = c1, ⟨by simp, rfl⟩, fun i acc c' ⟨_, ec⟩ => by rw [ec]; exact hsm, fun i p acc c' hi ⟨ea, ec⟩ => ?_, fun acc c' ⟨ea, ec⟩ => ?_⟩
  · subst ec
    rw [List.getElem?_map] at hi
    cases hx : xs[i]? with
    | none => rw [hx] at hi; cases hi
    | some x =>
      rw [hx] at hi
      cases hi
      refine (turn x (List.mem_of_getElem? hx)).mono fun ρ2 c2 ⟨e1, ht, hel⟩ => ?_
      subst e1
      refine ht.mono fun b c3 ⟨eb, e3⟩ => ?_
      subst e3
      have et : xs.take (i + 1) = xs.take i ++ [x] := by rw [List.take_add_one, hx]; rfl
      refine ⟨fun hb => (hel (by rw [← eb]; exact hb)).mono fun y c4 ⟨ey, e4⟩ => ⟨?_, e4⟩, fun hb => ⟨?_, rfl⟩⟩
      · rw [et, List.filter_append, List.map_append, ea, ey, List.filter_cons, if_pos (by rw [← eb]; exact hb)]; rfl
      · rw [et, List.filter_append, List.map_append, ea, List.filter_cons, if_neg (by rw [← eb, hb]; decide)]
        simp
  · subst ec
    rw [List.length_map, List.take_length] at ea
    rw [ea]
    exact q
theorem ew_lcMC {α : Type} {wi : TI} {g : TG} {vs : List Nat} (inj : α → P) (xs : List α) (v : α → P) (hg : GC g vs) (hI : IWC K wi ρ c fun items Sm c1 => items = xs.map inj ∧ c1 = c ∧ Sm c) (hz : xs.length ≤ 100000)
    (turn : ∀ x, x ∈ xs → GW K g (inj x) (wipeP ρ vs) c fun ρ2 c2 => c2 = c ∧ TW K tt ρ2 c (fun b c3 => b = true ∧ c3 = c) ∧ (true = true → EW K te ρ2 c fun y c4 => y = v x ∧ c4 = c)) (q : Q (.lst (xs.map v)) c) : EW K (tLc wi g tt te vs) ρ c Q :=
  ew_lcTC inj xs (fun _ => true) v hg hI hz turn (by
    have e : xs.filter (fun _ => true) = xs := by simp
    rw [e]; exact q)
theorem iw_cell {Q : List P → (List Ob → Prop) → List Ob → Prop} (h : EW K te ρ c fun p c1 => ∃ n xs, p = .cell n ∧ c1[n]? = some (.lst xs) ∧ Q xs (fun c2 => c2[n]? = some (.lst xs)) c1) : IWC K (iList K te) ρ c Q := fun σ H as F w e R k =>
  h σ H as F w e _ fun v H1 as1 F1 p c1 ⟨n, xs, ep, hc, q⟩ w1 x1 r1 => by
    subst ep
    cases r1 with
    | @cell _ a hn =>
      obtain ⟨_, vs, hH, hr⟩ := w1.cel n a _ hn hc
      refine ⟨a, rfl, ⟨vs, sq_of hH⟩, k _ H1 as1 F1 _ _ c1 q w1 x1 fun i H2 as2 F2 c2 w2 m pre hs => ?_⟩
      obtain ⟨_, us, h2, r2⟩ := w2.cel n a _ (pre_get pre hn) hs
      have hq : SqL K H2 a us := sq_of h2
      refine ⟨fun hi => ⟨us, hq, by rw [r2.length]; exact hi⟩, fun p e => ?_⟩
      obtain ⟨v, e1, r1⟩ := r2.get e
      refine ⟨⟨us, v, hq, e1⟩, fun x H3 ⟨eH, hx⟩ => ⟨F2, by rw [eH]; exact w2, by rw [eH]; exact Xt.refl, ?_⟩⟩
      have ex : x = v := Option.some.inj ((hx us hq).symm.trans e1)
      rw [ex]; exact r1
theorem iw_enumC {Q : List P → (List Ob → Prop) → List Ob → Prop} (h : AW K tl ρ c fun ps c1 => ∃ n xs, ps = [.cell n] ∧ c1[n]? = some (.lst xs) ∧ Q (enumP 0 xs) (fun c2 => c2[n]? = some (.lst xs)) c1) : IWC K (iEnum2 K true tl) ρ c Q := fun σ H as F w e R k =>
  h σ H as F w e _ fun vs H1 as1 F1 ps c1 ⟨n, xs, ep, hc, q⟩ w1 x1 r1 => by
    subst ep
    cases r1 with
    | cons r1 r2 =>
      cases r2
      cases r1 with
      | @cell _ a hn =>
        obtain ⟨_, vs, hH, hr⟩ := w1.cel n a _ hn hc
        refine ⟨a, vs, rfl, sq_of hH, k _ H1 as1 F1 _ _ c1 q w1 x1 fun i H2 as2 F2 c2 w2 m pre hs => ?_⟩
        obtain ⟨_, us, h2, r2⟩ := w2.cel n a _ (pre_get pre hn) hs
        have hq : SqK K true H2 a us := sq_of h2
        refine ⟨fun hi => ⟨us, hq, by rw [enumP_len] at hi; rw [r2.length]; exact hi⟩, fun p e => ?_⟩
        obtain ⟨x, ex, rfl⟩ := enumP_get e
        obtain ⟨v, e1, r1⟩ := r2.get ex
        refine ⟨⟨us, v, hq, e1⟩, fun z H3 ⟨T, x', ez, hT, eH, hx⟩ => ?_⟩
        have ev : x' = v := Option.some.inj ((hx us hq).symm.trans e1)
        subst ev ez eH
        obtain ⟨w3, x3⟩ := w2.alloc hT (.tup [.int (i : Int), x'])
        have e0 : (0 : Int) + (i : Int) = (i : Int) := by omega
        rw [e0]
        exact ⟨_, w3, x3, .tup (st_of upd_same) (.cons (.int _) (.cons (r1.xt x3) .nil))⟩
/-! ### lists put together, and so many times -/
/-- a list of one's own -/
inductive TrOf (c : List Ob) : P → List P → Prop
  | lst (xs : List P) : TrOf c (.lst xs) xs
  | cell {n : Nat} {xs : List P} : c[n]? = some (.lst xs) → TrOf c (.cell n) xs
theorem TrOf.at {p : P} {ps : List P} {v : V} (h : TrOf c p ps) (w : Wd K H as F c) (r : Rep K F as v p) : ∃ a xs, v = .ref a ∧ H a = some (.lst xs) ∧ Reps K F as xs ps := by
  cases h with
  | lst => cases r with | lst h1 h2 => exact ⟨_, _, rfl, w.sub _ _ h1, h2⟩
  | cell hc =>
    cases r with
    | @cell _ a hn =>
      obtain ⟨_, xs, h1, h2⟩ := w.cel _ _ _ hn hc
      exact ⟨a, xs, rfl, h1, h2⟩
theorem TrOf.of {p : P} {xs ys : List P} (h : TrOf c p xs) (e : xs = ys) : TrOf c p ys := e ▸ h
theorem ew_cat (h : EW K ta ρ c fun p c1 => EW K tb ρ c1 fun q c2 => ∃ xs ys, TrOf c2 p xs ∧ TrOf c2 q ys ∧ xs.length + ys.length ≤ 100000 ∧ Q (.lst (xs ++ ys)) c2) : EW K (tOp rCat ta tb) ρ c Q := fun σ H as F w e Q' k =>
  h σ H as F w e _ fun v H1 as1 F1 p c1 h2 w1 x1 r1 => by
    refine h2 σ H1 as1 F1 w1 (e.xt x1) _ fun v2 H2 as2 F2 p2 c2 ⟨xs, ys, f1, f2, hz, q⟩ w2 x2 r2 => ?_
    obtain ⟨a, us, rfl, h1, g1⟩ := f1.at w2 (r1.xt x2)
    obtain ⟨b, vs, rfl, h2, g2⟩ := f2.at w2 r2
    refine ⟨a, b, us, vs, rfl, rfl, h1, h2, sz_of (by rw [g1.length, g2.length]; exact hz), fun l hl => ?_⟩
    obtain ⟨w3, x3⟩ := w2.alloc hl (.lst (us ++ vs))
    exact k _ _ _ _ _ c2 q w3 ((x1.trans x2).trans x3) (.lst upd_same ((g1.append g2).xt x3))
theorem Reps.rep {vs : List V} {ps : List P} (r : Reps K F as vs ps) : ∀ n : Nat, Reps K F as (List.replicate n vs).flatten (List.replicate n ps).flatten
  | 0 => .nil
  | n + 1 => by
    rw [List.replicate_succ, List.replicate_succ, List.flatten_cons, List.flatten_cons]
    exact r.append (Reps.rep r n)
theorem ew_rep (h : EW K ta ρ c fun p c1 => EW K tb ρ c1 fun q c2 => ∃ xs n, TrOf c2 p xs ∧ q = .int n ∧ (-(2 ^ 63) ≤ n ∧ n < 2 ^ 63 ∧ xs.length * n.toNat ≤ 100000) ∧ Q (.lst (List.replicate n.toNat xs).flatten) c2) : EW K (tOp rRep ta tb) ρ c Q := fun σ H as F w e Q' k =>
  h σ H as F w e _ fun v H1 as1 F1 p c1 h2 w1 x1 r1 => by
    refine h2 σ H1 as1 F1 w1 (e.xt x1) _ fun v2 H2 as2 F2 p2 c2 ⟨xs, n, f1, f2, ⟨b1, b2, hz⟩, q⟩ w2 x2 r2 => ?_
    subst f2
    cases r2
    obtain ⟨a, us, rfl, h1, g1⟩ := f1.at w2 (r1.xt x2)
    refine ⟨a, n, us, rfl, rfl, h1, b1, b2, sz_of (by rw [g1.length]; exact hz), fun l hl => ?_⟩
    obtain ⟨w3, x3⟩ := w2.alloc hl (.lst (List.replicate n.toNat us).flatten)
    exact k _ _ _ _ _ c2 q w3 ((x1.trans x2).trans x3) (.lst upd_same ((g1.rep n.toNat).xt x3))
theorem ew_ltT (h : EW K ta ρ c fun p c1 => EW K tb ρ c1 fun q c2 => ∃ ns ms : List Int, p = .tup (ns.map P.int) ∧ q = .tup (ms.map P.int) ∧ Q (.bl (HT.lexLt ns ms)) c2) : EW K (tOp (rLtT K) ta tb) ρ c Q := fun σ H as F w e Q' k =>
  h σ H as F w e _ fun v H1 as1 F1 p c1 h2 w1 x1 r1 => by
    refine h2 σ H1 as1 F1 w1 (e.xt x1) _ fun v2 H2 as2 F2 p2 c2 ⟨ns, ms, e1, e2, q⟩ w2 x2 r2 => ?_
    subst e1 e2
    have r1' := r1.xt x2
    cases r1' with
    | @tup a us _ h1 g1 =>
      cases r2 with
      | @tup b vs _ h2 g2 =>
        have i1 := g1.ints
        have i2 := g2.ints
        subst i1 i2
        exact ⟨a, b, ns, ms, rfl, rfl, ex_t w2.sub h1, ex_t w2.sub h2, k _ H2 as2 F2 _ c2 q w2 (x1.trans x2) (.bl _)⟩
theorem ew_sortedI (h : EW K te ρ c fun p c1 => ∃ ns : List Int, LstOf c1 p (ns.map P.int) ∧ ∀ ns' : List Int, ns'.Perm ns → ns'.Pairwise (· ≤ ·) → Q (.lst (ns'.map P.int)) c1) : EW K (tCB (rSortedI K) (tCons te tNil)) ρ c Q :=
  ew_cb1 (h.mono fun p c1 ⟨ns, hp, q⟩ v H1 as1 F1 w1 r1 Q' k => by
    obtain ⟨a, xs, rfl, hs, rr⟩ := hp.at w1 r1
    have i1 := rr.ints
    subst i1
    refine ⟨a, ns, rfl, hs, fun ns' l p1 p2 hl => ?_⟩
    obtain ⟨w3, x3⟩ := w1.alloc hl (.lst (ns'.map V.int))
    exact k _ _ _ _ _ c1 (q ns' p1 p2) w3 x3 (.lst upd_same (Reps.of_ints ns')))
end
end PL

set_option Elab.async false
set_option linter.all false
set_option maxRecDepth 100000
set_option maxHeartbeats 2000000
namespace PL
open PySem PySem.Spec PyProof.Rows L2 Evl
/-! ### pairs of whole numbers, in sets and sorted -/
def pairI (x : Int × Int) : P := .tup [.int x.1, .int x.2]
def pls (x : Int × Int) : List Int := [x.1, x.2]
def cdP (B : Int) (x : Int × Int) : Int := x.1 * B + x.2
theorem code_pls (B : Int) (x : Int × Int) : TS.code B (pls x) = cdP B x := by
  unfold pls cdP
  simp [TS.code, Int.pow_succ]
section
variable {X : Cx} {K : PySem.W.Frag} {P₀ : Program} {w : World}
theorem cr_setOfT' (hK : X.K = K) (hP : X.prog = P₀) (hw : X.w = w) (hc : X.calm = true) (hu : X.A.units + 64 < cLine) : CallR X (.type "set") (rSetOfT K P₀ w) := by subst hK hP hw; exact cr_setOfT hc hu
theorem cr_sortedT' (hK : X.K = K) (hP : X.prog = P₀) (hw : X.w = w) (hc : X.calm = true) : CallR X (.builtin "sorted") (rSortedT K P₀ w) := by subst hK hP hw; exact cr_sortedT hc
theorem cr_sortT' (B : Int) (hK : X.K = K) : CallR X (.builtin "sorted") (rSortU K 2 B) := by subst hK; exact cr_sortT (by decide)
end
section
variable {K : PySem.W.Frag} {P₀ : Program} {w : World} {F H : Hp} {as : List Addr} {c : List Ob} {ρ : PR} {Q : PQ} {te : TE}
/-- a list of pairs is addresses of pairs -/
theorem pairs_rep : ∀ {gs : List (Int × Int)} {xs : List V}, Reps K F as xs (gs.map pairI) → ∃ ks : List (Addr × List Int), xs = ks.map (fun p => V.ref p.1) ∧ ks.map (·.2) = gs.map pls ∧ ∀ p ∈ ks, SqT K F p.1 (p.2.map V.int)
  | [], _, h => by cases h; exact ⟨[], rfl, rfl, fun _ h => by cases h⟩
  | g :: gs, _, h => by
    cases h with
    | cons h1 h2 =>
      obtain ⟨ks, e1, e2, e3⟩ := pairs_rep h2
      cases h1 with
      | @tup a us _ s r =>
        have e : us = [V.int g.1, V.int g.2] := by
          cases r with
          | cons r1 r2 => cases r1; cases r2 with | cons r2 r3 => cases r2; cases r3; rfl
        subst e
        refine ⟨(a, pls g) :: ks, by rw [e1]; rfl, by rw [List.map_cons, List.map_cons, e2], fun p hp => ?_⟩
        rcases List.mem_cons.mp hp with rfl | hp
        · exact s
        · exact e3 p hp
theorem rep_pairs : ∀ {ks : List (Addr × List Int)} {gs : List (Int × Int)}, ks.map (·.2) = gs.map pls → (∀ p ∈ ks, SqT K F p.1 (p.2.map V.int)) → Reps K F as (ks.map fun p => V.ref p.1) (gs.map pairI)
  | [], [], _, _ => .nil
  | [], _ :: _, h, _ => by cases h
  | _ :: _, [], h, _ => by cases h
  | (a, ns) :: ks, g :: gs, h, hs => by
    rw [List.map_cons, List.map_cons] at h
    injection h with h1 h2
    have s := hs _ List.mem_cons_self
    dsimp only at h1 s
    rw [h1] at s
    exact .cons (.tup s (.cons (.int _) (.cons (.int _) .nil))) (rep_pairs h2 fun p hp => hs p (List.mem_cons_of_mem _ hp))
theorem perm_unmap {α β : Type} {f : α → β} {xs ys : List β} (h : xs.Perm ys) : ∀ l : List α, ys = l.map f → ∃ l' : List α, l'.Perm l ∧ xs = l'.map f := by
  induction h with
  | nil => exact fun l e => ⟨l, .refl l, e⟩
  | cons x h ih =>
    intro l e
    cases l with
    | nil => cases e
    | cons a l =>
      rw [List.map_cons] at e
      injection e with e1 e2
      obtain ⟨l', p, e3⟩ := ih l e2
      exact ⟨a :: l', p.cons a, by rw [List.map_cons, e1, e3]⟩
  | swap x y l0 =>
    intro l e
    cases l with
    | nil => cases e
    | cons a l =>
      cases l with
      | nil => injection e with _ e; cases e
      | cons b l =>
        rw [List.map_cons, List.map_cons] at e
        injection e with e1 e2
        injection e2 with e2 e3
        exact ⟨b :: a :: l, .swap a b l, by rw [List.map_cons, List.map_cons, e1, e2, e3]⟩
  | trans h1 h2 ih1 ih2 =>
    intro l e
    obtain ⟨l2, p2, e2⟩ := ih2 l e
    obtain ⟨l1, p1, e1⟩ := ih1 l2 e2
    exact ⟨l1, p1.trans p2, e1⟩
theorem pls_inj {x y : Int × Int} (h : pls x = pls y) : x = y := by
  unfold pls at h
  injection h with h1 h2
  injection h2 with h2 _
  exact Prod.ext h1 h2
theorem lift_pls : ∀ {ls : List (List Int)} {gs : List (Int × Int)}, (∀ l ∈ ls, l ∈ gs.map pls) → ∃ zs : List (Int × Int), ls = zs.map pls ∧ ∀ z ∈ zs, z ∈ gs
  | [], _, _ => ⟨[], rfl, fun _ h => by cases h⟩
  | l :: ls, gs, h => by
    obtain ⟨g, hg, e⟩ := List.mem_map.mp (h l List.mem_cons_self)
    obtain ⟨zs, e2, h2⟩ := lift_pls (ls := ls) (gs := gs) fun l hl => h l (List.mem_cons_of_mem _ hl)
    exact ⟨g :: zs, by rw [e2, ← e]; rfl, fun z hz => by
      rcases List.mem_cons.mp hz with rfl | hz
      · exact hg
      · exact h2 z hz⟩
/-- sorted(set(pairs)) -/
theorem ew_sortSet (B : Int) (h : EW K te ρ c fun p c1 => ∃ gs : List (Int × Int), LstOf c1 p (gs.map pairI) ∧ (gs.length < 64 ∧ ∀ g ∈ gs, (0 ≤ g.1 ∧ g.1 < B) ∧ 0 ≤ g.2 ∧ g.2 < B) ∧
      ∀ zs : List (Int × Int), (∀ z, z ∈ zs ↔ z ∈ gs) → zs.Nodup → zs.Pairwise (fun a b => cdP B a ≤ cdP B b) → Q (.lst (zs.map pairI)) c1) :
    EW K (tCB (rSortedT K P₀ w) (tCons (tCB (rSetOfT K P₀ w) (tCons te tNil)) tNil)) ρ c Q := fun σ H as F wd e Q' k =>
  h σ H as F wd e _ fun v H1 as1 F1 p c1 ⟨gs, hp, ⟨hl, hb⟩, q⟩ w1 x1 r1 => by
    obtain ⟨a, xs, rfl, hs, rr⟩ := hp.at w1 r1
    obtain ⟨ks, e1, e2, e3⟩ := pairs_rep rr
    have lk : ks.length = gs.length := by have := congrArg List.length e2; rw [List.length_map, List.length_map] at this; exact this
    refine ⟨a, ks, rfl, by rw [← e1]; exact hs, fun p hp => ex_t w1.sub (e3 p hp), by omega, fun b L hb0 m1 m2 => ?_⟩
    obtain ⟨w2, x2⟩ := w1.alloc hb0 (SetTO P₀ w b L)
    have t2 : ∀ p ∈ L, SqT K (upd F1 b (SetTO P₀ w b L)) p.1 (p.2.map V.int) := fun p hp => ex_t x2.mono (e3 p (m1 p hp))
    have kin : ∀ p ∈ L, p.2 ∈ gs.map pls := fun p hp => by rw [← e2]; exact List.mem_map_of_mem (m1 p hp)
    refine ⟨b, L, 2, B, rfl, upd_same, fun p hp => ex_t w2.sub (t2 p hp), by decide, fun p hp => ?_, fun L' l pm nd hl' so hl0 => ?_⟩
    · obtain ⟨g, hg, eg⟩ := List.mem_map.mp (kin p hp)
      have hbg := hb g hg
      rw [← eg]
      refine ⟨rfl, fun m hm => ?_⟩
      unfold pls at hm
      simp only [List.mem_cons, List.not_mem_nil, or_false] at hm
      rcases hm with rfl | rfl
      · exact hbg.1
      · exact hbg.2
    · obtain ⟨zs, ez, hz⟩ := lift_pls (ls := L'.map (·.2)) (gs := gs) fun l hl => by
        obtain ⟨p, hp, ep⟩ := List.mem_map.mp hl
        rw [← ep]
        exact kin p (pm.mem_iff.mp hp)
      obtain ⟨w3, x3⟩ := w2.alloc hl0 (.lst (L'.map fun q => V.ref q.1))
      have so2 : (L'.map (·.2)).Pairwise (fun a b => TS.code B a ≤ TS.code B b) := List.pairwise_map.mpr so
      rw [ez] at so2 nd
      have so3 := List.pairwise_map.mp so2
      simp only [code_pls] at so3
      refine k _ _ _ _ _ c1 (q zs (fun z => ⟨hz z, fun hg => ?_⟩) ((List.pairwise_map.mp nd).imp fun h e => h (by rw [e])) so3) w3 (x1.trans (x2.trans x3)) (.lst upd_same (rep_pairs ez fun p hp => ex_t x3.mono (t2 p (pm.mem_iff.mp hp))))
      · have : pls z ∈ ks.map (·.2) := by rw [e2]; exact List.mem_map_of_mem hg
        obtain ⟨p, hp, ep⟩ := List.mem_map.mp this
        have h2 := m2 p hp
        rw [ep] at h2
        obtain ⟨p2, hp2, ep2⟩ := List.mem_map.mp h2
        have : pls z ∈ L'.map (·.2) := List.mem_map.mpr ⟨p2, pm.mem_iff.mpr hp2, ep2⟩
        rw [ez] at this
        obtain ⟨z', hz', e'⟩ := List.mem_map.mp this
        rw [← pls_inj e']; exact hz'
/-- sorted(pairs) -/
theorem ew_sortP (B : Int) (h : EW K te ρ c fun p c1 => ∃ gs : List (Int × Int), LstOf c1 p (gs.map pairI) ∧ (gs.length < 64 ∧ ∀ g ∈ gs, (0 ≤ g.1 ∧ g.1 < B) ∧ 0 ≤ g.2 ∧ g.2 < B) ∧
      ∀ zs : List (Int × Int), zs.Perm gs → zs.Pairwise (fun a b => cdP B a ≤ cdP B b) → Q (.lst (zs.map pairI)) c1) :
    EW K (tCB (rSortU K 2 B) (tCons te tNil)) ρ c Q := fun σ H as F wd e Q' k =>
  h σ H as F wd e _ fun v H1 as1 F1 p c1 ⟨gs, hp, ⟨hl, hb⟩, q⟩ w1 x1 r1 => by
    obtain ⟨a, xs, rfl, hs, rr⟩ := hp.at w1 r1
    obtain ⟨ks, e1, e2, e3⟩ := pairs_rep rr
    have lk : ks.length = gs.length := by have := congrArg List.length e2; rw [List.length_map, List.length_map] at this; exact this
    have tup : ∀ p ∈ ks, TupI K H1 (.ref p.1) p.2 := fun p hp => ⟨p.1, rfl, ex_t w1.sub (e3 p hp)⟩
    refine ⟨a, xs, rfl, hs, by rw [e1, List.length_map]; omega, fun x hx => ?_, fun ys l pm so hl0 => ?_⟩
    · rw [e1] at hx
      obtain ⟨p, hp, rfl⟩ := List.mem_map.mp hx
      have : p.2 ∈ gs.map pls := by rw [← e2]; exact List.mem_map_of_mem hp
      obtain ⟨g, hg, eg⟩ := List.mem_map.mp this
      have hbg := hb g hg
      refine ⟨p.2, tup p hp, by rw [← eg]; rfl, ?_⟩
      rw [← eg]
      intro m hm
      unfold pls at hm
      simp only [List.mem_cons, List.not_mem_nil, or_false] at hm
      rcases hm with rfl | rfl
      · exact hbg.1
      · exact hbg.2
    · obtain ⟨ls, pl, el⟩ := perm_unmap pm ks e1
      have t2 : ∀ p ∈ ls, SqT K F1 p.1 (p.2.map V.int) := fun p hp => e3 p (pl.mem_iff.mp hp)
      have pg : (ls.map (·.2)).Perm (gs.map pls) := by rw [← e2]; exact pl.map _
      obtain ⟨zs, pz, ez⟩ := perm_unmap pg gs rfl
      obtain ⟨w3, x3⟩ := w1.alloc hl0 (.lst ys)
      have so2 : (ls.map (·.2)).Pairwise (fun a b => TS.code B a ≤ TS.code B b) := by
        rw [el] at so
        refine List.pairwise_map.mpr ?_
        have so' := List.pairwise_map.mp so
        refine List.Pairwise.imp_of_mem (fun {a b} ha hb h => ?_) so'
        exact h a.2 b.2 (tup a (pl.mem_iff.mp ha)) (tup b (pl.mem_iff.mp hb))
      rw [ez] at so2
      have so3 := List.pairwise_map.mp so2
      simp only [code_pls] at so3
      refine k _ _ _ _ _ c1 (q zs pz so3) w3 (x1.trans x3) (.lst upd_same ?_)
      have rr := rep_pairs (K := K) (F := upd F1 l (.lst ys)) (as := as1) ez fun p hp => ex_t x3.mono (t2 p hp)
      rw [← el] at rr
      exact rr
end
end PL

set_option Elab.async false
set_option linter.all false
set_option maxRecDepth 100000
set_option maxHeartbeats 2000000
namespace PL
open PySem PySem.Spec PyProof.Rows L2 Evl
/-! ### the greatest, the least of a tuple -/
section
variable {prog : Program} {w : World} {A : Around} {E : Value → Shared → Prop} {s : Shared} {t : Addr}
theorem ints_pick {xs : Array (Int × Tok)} {i : Nat} {v : Value} (h : (intItems xs)[i]? = some v) (hi : i < xs.size) : ∃ tk, v = .int ((xs.toList.map (·.1)).getD i 0) tk := by
  obtain ⟨tk, e⟩ := intItems_at h
  exact ⟨tk, by rw [e, numAt_eq]⟩
theorem max_rawT {its : List Value} {ns : List Int} {Q : Value → Shared → Prop} (hd : A.handled = none) (ht : IsTup s.heap t its.toArray) (hi : IntsAre its ns) (hl : 0 < ns.length)
    (q : ∀ (h' : Heap) (tk : Nat) (M : Int) (t' : Tok), (∀ (b : Addr) (o : Obj), s.heap.get? b = some o → h'.get? b = some o) → M ∈ ns → (∀ a, a ∈ ns → a ≤ M) → Q (.int M t') { heap := h', gens := s.gens, drawn := s.drawn, toks := tk, os := s.os }) :
    wpAny (model prog w) A (call (.builtin "max") [.ref t]) Q E s := by
  obtain ⟨xs, ex⟩ := hi.allInts.items
  have en : xs.toList.map (·.1) = ns := by
    rw [← hi.numsOf, show its = (intItems xs).toList by rw [← ex], nums_intItems]
  have sz : xs.size = ns.length := by rw [← en, List.length_map, Array.length_toList]
  rw [ex] at ht
  have ht' : s.heap.IsTuple t (intItems xs) := ht
  have lt : t < s.heap.objs.size := by obtain ⟨o, e, _⟩ := ht; exact Heap.lt_size e
  refine call_max_walk (wpAny_pyIter_tuple ht' ⟨s.heap.objs.size, [s.heap.objs.size, t], [s.heap.objs.size], (intItems xs).size, fun i v => (intItems xs)[i]? = some v, fun i h => h.IsTupleIter s.heap.objs.size t i ∧ h.IsTuple t (intItems xs), fun i j => decide (numAt xs i > numAt xs j), rfl, Walks.tuple (A := A.in1) hd _ _ (Nat.ne_of_lt lt) _, ⟨⟨_, Heap.get?_push_size _ rfl, rfl, rfl⟩, Heap.IsTuple.push ht' _⟩, fun b hb => ?_, ?_, CmpOf.ints_gt (numAt xs) fun _ _ => intItems_at, fun v h' tk hP hk => ?_⟩)
  · simp only [List.mem_cons, List.not_mem_nil, or_false] at hb
    rw [Heap.size_push]
    rcases hb with rfl | rfl
    · exact Nat.lt_succ_self _
    · exact Nat.lt_succ_of_lt lt
  · rw [show (intItems xs).size = xs.size from Array.size_map ..]; omega
  · obtain ⟨b1, b2⟩ := argBest_gt (numAt xs) ((intItems xs).size - 1)
    have e1 : (intItems xs).size = xs.size := Array.size_map ..
    rw [e1] at b1 b2 hP
    obtain ⟨t', rfl⟩ := intItems_at hP
    refine q h' tk _ t' (fun b o e => hk b o (by rw [List.mem_singleton]; exact Nat.ne_of_lt (Heap.lt_size e)) (Heap.get?_push_of_some _ e)) ?_ fun a ha => ?_
    · rw [numAt_eq, en]; exact PySem.getD_mem (by omega)
    · obtain ⟨j, hj, ej⟩ := PySem.mem_getD ha
      have := b2 j (by omega)
      rw [numAt_eq xs j, en, ej] at this
      exact this
theorem min_rawT {its : List Value} {ns : List Int} {Q : Value → Shared → Prop} (hd : A.handled = none) (ht : IsTup s.heap t its.toArray) (hi : IntsAre its ns) (hl : 0 < ns.length)
    (q : ∀ (h' : Heap) (tk : Nat) (M : Int) (t' : Tok), (∀ (b : Addr) (o : Obj), s.heap.get? b = some o → h'.get? b = some o) → M ∈ ns → (∀ a, a ∈ ns → M ≤ a) → Q (.int M t') { heap := h', gens := s.gens, drawn := s.drawn, toks := tk, os := s.os }) :
    wpAny (model prog w) A (call (.builtin "min") [.ref t]) Q E s := by
  obtain ⟨xs, ex⟩ := hi.allInts.items
  have en : xs.toList.map (·.1) = ns := by
    rw [← hi.numsOf, show its = (intItems xs).toList by rw [← ex], nums_intItems]
  have sz : xs.size = ns.length := by rw [← en, List.length_map, Array.length_toList]
  rw [ex] at ht
  have ht' : s.heap.IsTuple t (intItems xs) := ht
  have lt : t < s.heap.objs.size := by obtain ⟨o, e, _⟩ := ht; exact Heap.lt_size e
  refine call_min_walk (wpAny_pyIter_tuple ht' ⟨s.heap.objs.size, [s.heap.objs.size, t], [s.heap.objs.size], (intItems xs).size, fun i v => (intItems xs)[i]? = some v, fun i h => h.IsTupleIter s.heap.objs.size t i ∧ h.IsTuple t (intItems xs), fun i j => decide (numAt xs i < numAt xs j), rfl, Walks.tuple (A := A.in1) hd _ _ (Nat.ne_of_lt lt) _, ⟨⟨_, Heap.get?_push_size _ rfl, rfl, rfl⟩, Heap.IsTuple.push ht' _⟩, fun b hb => ?_, ?_, CmpOf.ints_lt (numAt xs) fun _ _ => intItems_at, fun v h' tk hP hk => ?_⟩)
  · simp only [List.mem_cons, List.not_mem_nil, or_false] at hb
    rw [Heap.size_push]
    rcases hb with rfl | rfl
    · exact Nat.lt_succ_self _
    · exact Nat.lt_succ_of_lt lt
  · rw [show (intItems xs).size = xs.size from Array.size_map ..]; omega
  · obtain ⟨b1, b2⟩ := argBest_lt (numAt xs) ((intItems xs).size - 1)
    have e1 : (intItems xs).size = xs.size := Array.size_map ..
    rw [e1] at b1 b2 hP
    obtain ⟨t', rfl⟩ := intItems_at hP
    refine q h' tk _ t' (fun b o e => hk b o (by rw [List.mem_singleton]; exact Nat.ne_of_lt (Heap.lt_size e)) (Heap.get?_push_of_some _ e)) ?_ fun a ha => ?_
    · rw [numAt_eq, en]; exact PySem.getD_mem (by omega)
    · obtain ⟨j, hj, ej⟩ := PySem.mem_getD ha
      have := b2 j (by omega)
      rw [numAt_eq xs j, en, ej] at this
      exact this
end
def rMaxT (K : PySem.W.Frag) (vs : List V) (H : Hp) (Q : VK) : Prop := ∃ (a : Addr) (ns : List Int), vs = [V.ref a] ∧ SqT K H a (ns.map V.int) ∧ 0 < ns.length ∧ ∀ m, m ∈ ns → (∀ y, y ∈ ns → y ≤ m) → Q (.int m) H
def rMinT (K : PySem.W.Frag) (vs : List V) (H : Hp) (Q : VK) : Prop := ∃ (a : Addr) (ns : List Int), vs = [V.ref a] ∧ SqT K H a (ns.map V.int) ∧ 0 < ns.length ∧ ∀ m, m ∈ ns → (∀ y, y ∈ ns → m ≤ y) → Q (.int m) H
theorem cr_maxT {X : Cx} {K : PySem.W.Frag} (hK : X.K = K) (hc : X.calm = true) : CallR X (.builtin "max") (rMaxT K) := by
  subst hK
  intro pins s σ H vs us Q I r h
  obtain ⟨a, ns, rfl, hs, hl, q⟩ := h
  cases r with
  | cons r rr =>
    cases rr; cases r
    obtain ⟨its, rv, p1, _⟩ := I.tuple hs
    exact max_rawT (I.ok.hd hc) p1 rv.ints hl fun h' tk M t' k m1 m2 => ⟨.int M, H, I.kept (t' := tk) k, ⟨t', rfl⟩, q M m1 m2⟩
theorem cr_minT {X : Cx} {K : PySem.W.Frag} (hK : X.K = K) (hc : X.calm = true) : CallR X (.builtin "min") (rMinT K) := by
  subst hK
  intro pins s σ H vs us Q I r h
  obtain ⟨a, ns, rfl, hs, hl, q⟩ := h
  cases r with
  | cons r rr =>
    cases rr; cases r
    obtain ⟨its, rv, p1, _⟩ := I.tuple hs
    exact min_rawT (I.ok.hd hc) p1 rv.ints hl fun h' tk M t' k m1 m2 => ⟨.int M, H, I.kept (t' := tk) k, ⟨t', rfl⟩, q M m1 m2⟩
section
variable {K : PySem.W.Frag} {F H : Hp} {as : List Addr} {c : List Ob} {ρ : PR} {Q : PQ} {te ta tb : TE}
theorem ew_maxT (h : EW K te ρ c fun p c1 => ∃ ns : List Int, p = .tup (ns.map P.int) ∧ 0 < ns.length ∧ ∀ m, m ∈ ns → (∀ y, y ∈ ns → y ≤ m) → Q (.int m) c1) : EW K (tCB (rMaxT K) (tCons te tNil)) ρ c Q :=
  ew_cb1 (h.mono fun p c1 ⟨ns, ep, hl, q⟩ v H1 as1 F1 w1 r1 Q' k => by
    subst ep
    cases r1 with
    | @tup a us _ s r =>
      have i1 := r.ints
      subst i1
      exact ⟨a, ns, rfl, ex_t w1.sub s, hl, fun m m1 m2 => k _ H1 as1 F1 _ c1 (q m m1 m2) w1 Xt.refl (.int _)⟩)
theorem ew_minT (h : EW K te ρ c fun p c1 => ∃ ns : List Int, p = .tup (ns.map P.int) ∧ 0 < ns.length ∧ ∀ m, m ∈ ns → (∀ y, y ∈ ns → m ≤ y) → Q (.int m) c1) : EW K (tCB (rMinT K) (tCons te tNil)) ρ c Q :=
  ew_cb1 (h.mono fun p c1 ⟨ns, ep, hl, q⟩ v H1 as1 F1 w1 r1 Q' k => by
    subst ep
    cases r1 with
    | @tup a us _ s r =>
      have i1 := r.ints
      subst i1
      exact ⟨a, ns, rfl, ex_t w1.sub s, hl, fun m m1 m2 => k _ H1 as1 F1 _ c1 (q m m1 m2) w1 Xt.refl (.int _)⟩)
end
/-! ### pairs as data -/
theorem datas_pairs : ∀ zs : List (Int × Int), datas (zs.map pairI) = true
  | [] => rfl
  | z :: zs => by
    show ((pairI z).data && datas (zs.map pairI)) = true
    rw [datas_pairs zs]; rfl
def pairD (z : Int × Int) : PyData := .tuple [.int z.1, .int z.2]
theorem toDs_pairs : ∀ zs : List (Int × Int), toDs (zs.map pairI) = zs.map pairD
  | [] => rfl
  | z :: zs => by
    show (pairI z).toD :: toDs (zs.map pairI) = _
    rw [toDs_pairs zs]; rfl
theorem eqv_pair (a b : Int × Int) : PyData.eqv (pairD a) (pairD b) = decide (a = b) := by
  have e : PyData.eqv (pairD a) (pairD b) = decide ([a.1, a.2] = [b.1, b.2]) := eqv_tup [a.1, a.2] [b.1, b.2]
  rw [e]
  by_cases h : a = b
  · subst h; simp
  · rw [decide_eq_false h, decide_eq_false]
    intro z
    injection z with z1 z2
    injection z2 with z2 _
    exact h (Prod.ext z1 z2)
theorem eqvAll_pairs : ∀ xs ys : List (Int × Int), PyData.eqvAll (xs.map pairD) (ys.map pairD) = decide (xs = ys)
  | [], [] => rfl
  | [], _ :: _ => rfl
  | _ :: _, [] => rfl
  | x :: xs, y :: ys => by
    show (PyData.eqv (pairD x) (pairD y) && PyData.eqvAll (xs.map pairD) (ys.map pairD)) = _
    rw [eqv_pair, eqvAll_pairs xs ys]
    by_cases h1 : x = y <;> by_cases h2 : xs = ys <;> simp [h1, h2]
theorem eqv_pairs (xs ys : List (Int × Int)) : PyData.eqv (P.tup (xs.map pairI)).toD (P.tup (ys.map pairI)).toD = decide (xs = ys) := by
  rw [← eqvAll_pairs]
  show PyData.eqv (.tuple (toDs (xs.map pairI))) (.tuple (toDs (ys.map pairI))) = _
  rw [toDs_pairs, toDs_pairs]; rfl
theorem canLay_pairs : ∀ zs : List (Int × Int), PyData.canLayAll0 (zs.map pairD) = true
  | [] => rfl
  | z :: zs => by
    show (PyData.canLay0 (pairD z) && PyData.canLayAll0 (zs.map pairD)) = true
    rw [canLay_pairs zs]; rfl
theorem depth_pairs : ∀ zs : List (Int × Int), PyData.depthAll (zs.map pairD) ≤ 1
  | [] => Nat.zero_le _
  | z :: zs => by
    show max (PyData.depth (pairD z)) (PyData.depthAll (zs.map pairD)) ≤ 1
    have h1 : PyData.depth (pairD z) = 1 := rfl
    have h2 := depth_pairs zs
    rw [h1]; omega
theorem shaped_pairs (zs : List (Int × Int)) : SeqAt.shaped (P.tup (zs.map pairI)).toD = true := by
  show (PyData.canLayAll0 (toDs (zs.map pairI)) && decide (PyData.depthAll (toDs (zs.map pairI)) + 1 ≤ 64)) = true
  have := depth_pairs zs
  rw [toDs_pairs, canLay_pairs, decide_eq_true (by omega)]; rfl
theorem data_pairs (zs : List (Int × Int)) : (P.tup (zs.map pairI)).data = true := datas_pairs zs
section
variable {K : PySem.W.Frag} {c : List Ob} {ρ : PR} {Q : PQ} {ta tb : TE} {tt : TT}
theorem ew_ifTI2 {x : Bool} {a1 a2 b1 b2 : Int} (h : TW K tt ρ c fun b c' => b = x ∧ c' = c) (h1 : x = true → EW K ta ρ c fun p c' => p = .tup [.int a1, .int a2] ∧ c' = c) (h2 : x = false → EW K tb ρ c fun p c' => p = .tup [.int b1, .int b2] ∧ c' = c)
    (q : Q (.tup [.int (if x = true then a1 else b1), .int (if x = true then a2 else b2)]) c) : EW K (tIf tt ta tb) ρ c Q :=
  ew_if' h h1 h2 (by cases x <;> exact q)
end
theorem get_app {c : List Ob} {o : Ob} : (c ++ [o])[c.length]? = some o := by rw [List.getElem?_append_right (Nat.le_refl _), Nat.sub_self]; rfl
theorem set_app {c : List Ob} {o o' : Ob} : (c ++ [o]).set c.length o' = c ++ [o'] := by rw [List.set_append_right _ _ (Nat.le_refl _), Nat.sub_self]; rfl
theorem get_appS {c : List Ob} {o o' : Ob} : ((c ++ [o]).set c.length o')[c.length]? = some o' := by rw [set_app]; exact get_app
theorem rt_app {c : List Ob} {Q : PQ} {p : P} {ex : List Ob} (hb : ∀ o ∈ c, Ob.bel c.length o = true) (hp : p.bel c.length = true) (q : Q p c) : RtOk c Q p (c ++ ex) := .inr ⟨c, ex, rfl, Nat.le_refl _, hb, hp, q⟩
theorem bels_pairs (n : Nat) : ∀ zs : List (Int × Int), bels n (zs.map pairI) = true
  | [] => rfl
  | z :: zs => by
    show ((pairI z).bel n && bels n (zs.map pairI)) = true
    rw [bels_pairs n zs]; rfl
theorem bels_ints (n : Nat) : ∀ zs : List Int, bels n (zs.map P.int) = true
  | [] => rfl
  | z :: zs => by
    show ((P.int z).bel n && bels n (zs.map P.int)) = true
    rw [bels_ints n zs]; rfl
/-! ### is it None -/
def P.isNon : P → Bool
  | .non => true
  | _ => false
theorem Rep.isNon {K : PySem.W.Frag} {F : Hp} {as : List Addr} {p : P} {v : V} (r : Rep K F as v p) : decide (v = V.non) = p.isNon := by
  cases r <;> rfl
theorem ew_isP {K : PySem.W.Frag} {c : List Ob} {ρ : PR} {Q : PQ} {ta : TE} (h : EW K ta ρ c fun p c1 => Q (.bl p.isNon) c1) : EW K (tOp (fun x y H Q => y = V.non ∧ Q (V.bl (decide (x = V.non))) H) ta (tC .non)) ρ c Q := fun σ H as F w e Q' k =>
  h σ H as F w e _ fun v H1 as1 F1 p c1 q w1 x1 r1 => ⟨rfl, by rw [r1.isNon]; exact k _ H1 as1 F1 _ c1 q w1 x1 (.bl _)⟩
end PL

set_option Elab.async false
set_option linter.all false
set_option maxRecDepth 100000
set_option maxHeartbeats 2000000
namespace PL
open PySem PySem.Spec PyProof.Rows L2 Evl
/-! ### the sum of a tuple -/
section
variable {prog : Program} {w : World} {A : Around} {E : Value → Shared → Prop} {s : Shared} {t : Addr}
theorem sum_rawT {its : List Value} {ns : List Int} {Q : Value → Shared → Prop} (hd : A.handled = none) (ht : IsTup s.heap t its.toArray) (hi : IntsAre its ns)
    (q : ∀ (h' : Heap) (tk : Nat) (t' : Tok), (∀ (b : Addr) (o : Obj), s.heap.get? b = some o → h'.get? b = some o) → Q (.int ns.sum t') { heap := h', gens := s.gens, drawn := s.drawn, toks := tk, os := s.os }) :
    wpAny (model prog w) A (call (.builtin "sum") [.ref t]) Q E s := by
  obtain ⟨xs, ex⟩ := hi.allInts.items
  have hn : numsOf (intItems xs).toList = ns := by rw [← ex]; exact hi.numsOf
  rw [nums_intItems] at hn
  rw [ex] at ht
  have ht' : s.heap.IsTuple t (intItems xs) := ht
  refine PySem.W.ktm_sumG hd ht' fun h' tk t' hk => ?_
  have := q h' tk t' hk
  rw [preSum_eq, List.take_of_length_le (by simp), hn]; exact this
end
def rSumT (K : PySem.W.Frag) (vs : List V) (H : Hp) (Q : VK) : Prop := ∃ (a : Addr) (ns : List Int), vs = [V.ref a] ∧ SqT K H a (ns.map V.int) ∧ Q (.int ns.sum) H
theorem cr_sumT {X : Cx} {K : PySem.W.Frag} (hK : X.K = K) (hc : X.calm = true) : CallR X (.builtin "sum") (rSumT K) := by
  subst hK
  intro pins s σ H vs us Q I r h
  obtain ⟨a, ns, rfl, hs, q⟩ := h
  cases r with
  | cons r rr =>
    cases rr; cases r
    obtain ⟨its, rv, p1, _⟩ := I.tuple hs
    exact sum_rawT (I.ok.hd hc) p1 rv.ints fun h' tk t' k => ⟨.int _, H, I.kept (t' := tk) k, ⟨t', rfl⟩, q⟩
section
variable {K : PySem.W.Frag} {F H : Hp} {as : List Addr} {c : List Ob} {ρ : PR} {Q : PQ} {te ta tb : TE}
theorem ew_sumT (h : EW K te ρ c fun p c1 => ∃ ns : List Int, p = .tup (ns.map P.int) ∧ Q (.int ns.sum) c1) : EW K (tCB (rSumT K) (tCons te tNil)) ρ c Q :=
  ew_cb1 (h.mono fun p c1 ⟨ns, ep, q⟩ v H1 as1 F1 w1 r1 Q' k => by
    subst ep
    cases r1 with
    | @tup a us _ s r =>
      have i1 := r.ints
      subst i1
      exact ⟨a, ns, rfl, ex_t w1.sub s, k _ H1 as1 F1 _ c1 q w1 Xt.refl (.int _)⟩)
theorem tw_of {K : PySem.W.Frag} {c : List Ob} {ρ : PR} {tt : TT} {x : Bool} {Q : Bool → List Ob → Prop} (h : TW K tt ρ c fun b c' => b = x ∧ c' = c) (q : Q x c) : TW K tt ρ c Q := fun σ H as F w e Q' k =>
  h σ H as F w e Q' fun b H' as' F' c' ⟨e1, e2⟩ w' x' => by
    subst e1 e2
    exact k _ H' as' F' _ q w' x'
end
end PL

set_option linter.all false
set_option autoImplicit false
namespace Gold
/-! the golden mean by whole numbers -/
def q (m n : Int) : Int := m * m - m * n - n * n
def isq : Nat → Nat
  | 0 => 0
  | n + 1 => if (isq n + 1) * (isq n + 1) ≤ n + 1 then isq n + 1 else isq n
theorem isq_spec : ∀ n, isq n * isq n ≤ n ∧ n < (isq n + 1) * (isq n + 1)
  | 0 => ⟨by decide, by decide⟩
  | n + 1 => by
    obtain ⟨h1, h2⟩ := isq_spec n
    unfold isq
    split
    · rename_i h
      refine ⟨h, ?_⟩
      have e : (isq n + 1 + 1) * (isq n + 1 + 1) = (isq n + 1) * (isq n + 1) + 2 * (isq n + 1) + 1 := by grind
      rw [e]; omega
    · rename_i h
      exact ⟨by omega, by omega⟩
theorem sq_lt {a b : Int} (ha : 0 ≤ a) (hb : 0 ≤ b) (h : a * a < b * b) : a < b := by
  rcases Int.lt_or_le a b with h1 | h1
  · exact h1
  · have := Int.mul_le_mul h1 h1 hb ha
    omega
theorem sq_le {a b : Int} (ha : 0 ≤ a) (hb : 0 ≤ b) (h : a * a ≤ b * b) : a ≤ b := by
  rcases Int.lt_or_le b a with h1 | h1
  · have h2 : (b + 1) * (b + 1) ≤ a * a := Int.mul_le_mul h1 h1 (by omega) ha
    have e : (b + 1) * (b + 1) = b * b + 2 * b + 1 := by grind
    omega
  · exact h1
def rt (n : Int) : Int := (isq n.toNat : Int)
theorem rt_spec {n : Int} (h : 0 ≤ n) : 0 ≤ rt n ∧ rt n * rt n ≤ n ∧ n < (rt n + 1) * (rt n + 1) := by
  obtain ⟨h1, h2⟩ := isq_spec n.toNat
  have e1 : ((isq n.toNat * isq n.toNat : Nat) : Int) ≤ (n.toNat : Int) := Int.ofNat_le.mpr h1
  have e2 : (n.toNat : Int) < (((isq n.toNat + 1) * (isq n.toNat + 1) : Nat) : Int) := Int.ofNat_lt.mpr h2
  rw [Int.natCast_mul] at e1 e2
  rw [Int.natCast_add] at e2
  rw [Int.toNat_of_nonneg h] at e1 e2
  exact ⟨Int.natCast_nonneg _, e1, e2⟩
theorem rt_uniq {n s : Int} (h : 0 ≤ s) (h1 : s * s ≤ n) (h2 : n < (s + 1) * (s + 1)) : s = rt n := by
  have hn : 0 ≤ n := Int.le_trans (Int.mul_nonneg h h) h1
  obtain ⟨r0, r1, r2⟩ := rt_spec hn
  have a : s < rt n + 1 := sq_lt h (by omega) (by omega)
  have b : rt n < s + 1 := sq_lt r0 (by omega) (by omega)
  omega
def A (n : Int) : Int := (n + rt (5 * n * n)) / 2
theorem q_mono {x y n : Int} (hn : n ≤ 2 * x) (h : x ≤ y) : q x n ≤ q y n := by
  have := Int.mul_nonneg (show 0 ≤ y - x by omega) (show 0 ≤ y + x - n by omega)
  unfold q; grind
theorem A_spec {n : Int} (h : 0 ≤ n) : n ≤ A n ∧ A n ≤ 2 * n ∧ q (A n) n ≤ 0 ∧ 0 < q (A n + 1) n := by
  have h5 : 0 ≤ 5 * n * n := Int.mul_nonneg (by omega) h
  obtain ⟨r0, r1, r2⟩ := rt_spec h5
  unfold A
  generalize hs : rt (5 * n * n) = s at *
  have b1 : 2 * n ≤ s := by
    have := Int.mul_nonneg h h
    have : 2 * n < s + 1 := sq_lt (by omega) (by omega) (by grind)
    omega
  have b2 : s ≤ 3 * n := sq_le r0 (by omega) (by have := Int.mul_nonneg h h; grind)
  have d : ∃ m, (n + s) / 2 = m ∧ 2 * m ≤ n + s ∧ n + s < 2 * m + 2 := ⟨_, rfl, by omega, by omega⟩
  obtain ⟨m, e, d1, d2⟩ := d
  rw [e]
  refine ⟨by omega, by omega, ?_, ?_⟩
  · have h1 : (2 * m - n) * (2 * m - n) ≤ s * s := Int.mul_le_mul (by omega) (by omega) (by omega) r0
    unfold q; grind
  · have h1 : (s + 1) * (s + 1) ≤ (2 * (m + 1) - n) * (2 * (m + 1) - n) := Int.mul_le_mul (by omega) (by omega) (by omega) (by omega)
    unfold q; grind
theorem A_uniq {n m : Int} (h : 0 ≤ n) (hm : n ≤ 2 * m) (h1 : q m n ≤ 0) (h2 : 0 < q (m + 1) n) : m = A n := by
  obtain ⟨a1, a2, a3, a4⟩ := A_spec h
  rcases Int.lt_trichotomy m (A n) with c | c | c
  · have := q_mono (x := m + 1) (y := A n) (n := n) (by omega) (by omega)
    omega
  · exact c
  · have := q_mono (x := A n + 1) (y := m) (n := n) (by omega) (by omega)
    omega
theorem q_zero : ∀ (k : Nat) {m n : Int}, 0 ≤ m → 0 ≤ n → m + n ≤ k → q m n = 0 → m = 0 ∧ n = 0
  | 0, m, n, hm, hn, h, _ => ⟨by omega, by omega⟩
  | k + 1, m, n, hm, hn, h, e => by
    unfold q at e
    have em : ∃ a b : Int, m = 2 * a + b ∧ (b = 0 ∨ b = 1) := ⟨m / 2, m % 2, by omega, by omega⟩
    have en : ∃ a b : Int, n = 2 * a + b ∧ (b = 0 ∨ b = 1) := ⟨n / 2, n % 2, by omega, by omega⟩
    obtain ⟨a, b, rfl, hb⟩ := em
    obtain ⟨c, d, rfl, hd⟩ := en
    rcases hb with rfl | rfl <;> rcases hd with rfl | rfl
    · have e2 : q a c = 0 := by unfold q; grind
      by_cases z : a + c = 0
      · omega
      · have := q_zero k (m := a) (n := c) (by omega) (by omega) (by omega) e2
        omega
    · exfalso
      have : 4 * (a * a) - 2 * (a * (2 * c + 1)) - (4 * (c * c) + 4 * c + 1) = 0 := by grind
      omega
    · exfalso
      have : 4 * (a * a) + 4 * a + 1 - 2 * ((2 * a + 1) * c) - 4 * (c * c) = 0 := by grind
      omega
    · exfalso
      have : 4 * (a * a) + 4 * a + 1 - (4 * (a * c) + 2 * a + 2 * c + 1) - (4 * (c * c) + 4 * c + 1) = 0 := by grind
      omega
theorem q_ne {m n : Int} (hm : 0 ≤ m) (hn : 0 < n) : q m n ≠ 0 := fun e => by
  have := q_zero (m + n).toNat hm (by omega) (by omega) e
  omega
theorem A_pos {n : Int} (h : 0 < n) : q (A n) n < 0 := by
  obtain ⟨a1, a2, a3, a4⟩ := A_spec (Int.le_of_lt h)
  have := q_ne (m := A n) (by omega) h
  omega
theorem A0 : A 0 = 0 := by decide
/-- the second of a pair, and its pair -/
theorem AB {n : Int} (h : 0 ≤ n) : A (A n + n) = 2 * A n + n := by
  obtain ⟨a1, a2, a3, a4⟩ := A_spec h
  refine (A_uniq (by omega) (by omega) ?_ ?_).symm
  · unfold q at *; grind
  · unfold q at *; grind
theorem AA {n : Int} (h : 0 < n) : A (A n) = A n + n - 1 := by
  obtain ⟨a1, a2, a3, a4⟩ := A_spec (Int.le_of_lt h)
  have a5 := A_pos h
  have a6 : A n < 2 * n := by
    rcases Int.lt_or_le (A n) (2 * n) with c | c
    · exact c
    · have e : A n = 2 * n := by omega
      rw [e] at a5
      have := Int.mul_pos h h
      unfold q at a5; grind
  refine (A_uniq (by omega) (by omega) ?_ ?_).symm
  · unfold q at *; grind
  · unfold q at *; grind
theorem Astep {n : Int} (h : 0 ≤ n) : A (n + 1) = A n + 1 ∨ A (n + 1) = A n + 2 := by
  obtain ⟨a1, a2, a3, a4⟩ := A_spec h
  obtain ⟨b1, b2, b3, b4⟩ := A_spec (n := n + 1) (by omega)
  have lo : A n + 1 ≤ A (n + 1) := by
    rcases Int.lt_or_le (A (n + 1)) (A n + 1) with c | c
    · have := q_mono (x := A (n + 1) + 1) (y := A n + 1) (n := n + 1) (by omega) (by omega)
      exfalso; unfold q at *; grind
    · exact c
  have lo2 : 3 * n ≤ 2 * (A n + 1) := by
    rcases Int.lt_or_le (2 * (A n + 1)) (3 * n) with c | c
    · have h1 : (2 * (A n + 1) - n) * (2 * (A n + 1) - n) ≤ (2 * n) * (2 * n) := Int.mul_le_mul (by omega) (by omega) (by omega) (by omega)
      have h2 := Int.mul_nonneg h h
      exfalso; unfold q at *; grind
    · exact c
  have hi : A (n + 1) ≤ A n + 2 := by
    rcases Int.lt_or_le (A n + 2) (A (n + 1)) with c | c
    · have h1 := q_mono (x := A n + 3) (y := A (n + 1)) (n := n + 1) (by omega) (by omega)
      have e : q (A n + 3) (n + 1) = q (A n) n + 5 * A n - 5 * n + 5 := by unfold q; grind
      have e2 : q (A n + 1) n = q (A n) n + 2 * A n + 1 - n := by unfold q; grind
      omega
    · exact c
  omega
theorem A_mono {n m : Int} (h : 0 ≤ n) (hm : n < m) : A n < A m := by
  obtain ⟨k, rfl⟩ : ∃ k : Nat, m = n + 1 + (k : Int) := ⟨(m - n - 1).toNat, by omega⟩
  induction k with
  | zero => have := Astep h; simp; omega
  | succ k ih =>
    have := Astep (n := n + 1 + (k : Int)) (by omega)
    have e : n + 1 + ((k + 1 : Nat) : Int) = n + 1 + (k : Int) + 1 := by omega
    rw [e]
    have := ih (by omega)
    omega
theorem A_inj {n m : Int} (h : 0 ≤ n) (hm : 0 ≤ m) (e : A n = A m) : n = m := by
  rcases Int.lt_trichotomy n m with c | c | c
  · have := A_mono h c; omega
  · exact c
  · have := A_mono hm c; omega
theorem A_le {n m : Int} (h : 0 ≤ n) (hm : n ≤ m) : A n ≤ A m := by
  rcases Int.lt_or_eq_of_le hm with c | c
  · exact Int.le_of_lt (A_mono h c)
  · rw [c]; exact Int.le_refl _
/-- near: the mate of a size lies by it -/
def near (s : Int) : Int := (rt (5 * s * s) - s) / 2
theorem near_eq {s : Int} (h : 0 ≤ s) : near s = A s - s := by
  unfold near A; omega
/-- each size is the first or the second of a pair -/
theorem mate {s : Int} (h : 0 < s) : A (near s + 1) = s ∨ (A (s - near s) = near s ∧ near s < s) := by
  have h0 := Int.le_of_lt h
  rw [near_eq h0]
  obtain ⟨a1, a2, a3, a4⟩ := A_spec h0
  have a5 := A_pos h
  have a6 : A s < 2 * s := by
    rcases Int.lt_or_le (A s) (2 * s) with c | c
    · exact c
    · have e : A s = 2 * s := by omega
      rw [e] at a5
      have := Int.mul_pos h h
      unfold q at a5; grind
  -- t = A s - s; s < A (t + 1) or the second case
  generalize ht : A s - s = t
  have es : A s = s + t := by omega
  rw [es] at a1 a2 a3 a4 a5 a6
  have s1 : q s (t + 1) < 0 := by unfold q at *; grind
  have s2 : 0 < q s t ∨ t = 0 := by
    by_cases z : t = 0
    · exact .inr z
    · left; unfold q at *; grind
  by_cases c : 0 < q (s + 1) (t + 1)
  · left
    exact (A_uniq (by omega) (by omega) (by omega) c).symm
  · right
    have ne := q_ne (m := s + 1) (n := t + 1) (by omega) (by omega)
    have c2 : q (s + 1) (t + 1) < 0 := by omega
    have c3 : s + 1 < 2 * (t + 1) := by
      rcases Int.lt_or_le (s + 1) (2 * (t + 1)) with z | z
      · exact z
      · have m := q_mono (x := 2 * (t + 1)) (y := s + 1) (n := t + 1) (by omega) z
        have p := Int.mul_pos (show 0 < t + 1 by omega) (show 0 < t + 1 by omega)
        have e : q (2 * (t + 1)) (t + 1) = (t + 1) * (t + 1) := by unfold q; grind
        omega
    refine ⟨(A_uniq (by omega) (by omega) ?_ ?_).symm, by omega⟩
    · have e : q t (s - t) = - q s t := by unfold q; grind
      rcases s2 with z | z
      · omega
      · subst z
        have p := Int.mul_pos h h
        have e2 : q s 0 = s * s := by unfold q; grind
        omega
    · have e : q (t + 1) (s - t) = - q (s + 1) (t + 1) := by unfold q; grind
      omega
end Gold

set_option linter.all false
set_option autoImplicit false
namespace Gold
/-! Euclid's pairs -/
def lo (a b : Int) : Int := if b < a then b else a
def hi (a b : Int) : Int := if b > a then b else a
def won (a b : Int) : Bool := decide (0 < lo a b) && (decide (lo a b = hi a b) || decide (0 < q (hi a b) (lo a b)))
def goodE (a b : Int) : List Int := ([hi a b / lo a b - 1, hi a b / lo a b].filter fun t => decide (0 < t)).filter fun t => !won (lo a b) (hi a b - t * lo a b)
theorem lo_comm (a b : Int) : lo a b = lo b a := by unfold lo; split <;> split <;> omega
theorem hi_comm (a b : Int) : hi a b = hi b a := by unfold hi; split <;> split <;> omega
theorem won_comm (a b : Int) : won a b = won b a := by unfold won; rw [lo_comm a b, hi_comm a b]
theorem goodE_comm (a b : Int) : goodE a b = goodE b a := by unfold goodE; rw [lo_comm a b, hi_comm a b]
theorem lo_hi {a b : Int} (h : a ≤ b) : lo a b = a ∧ hi a b = b := by unfold lo hi; constructor <;> split <;> omega
theorem lo_mul {k a b : Int} (h : 0 < k) : lo (k * a) (k * b) = k * lo a b ∧ hi (k * a) (k * b) = k * hi a b := by
  unfold lo hi
  rcases Int.lt_trichotomy a b with c | c | c
  · have := Int.mul_lt_mul_of_pos_left c h
    rw [if_neg (by omega), if_neg (by omega), if_pos (show k * b > k * a from this), if_pos (show b > a from c)]
    exact ⟨rfl, rfl⟩
  · subst c; constructor <;> simp
  · have := Int.mul_lt_mul_of_pos_left c h
    rw [if_pos this, if_pos c, if_neg (by omega), if_neg (by omega)]
    exact ⟨rfl, rfl⟩
theorem q_mul (k m n : Int) : q (k * m) (k * n) = k * k * q m n := by unfold q; grind
theorem mul_pos_iff {k x : Int} (h : 0 < k) : 0 < k * x ↔ 0 < x := by
  constructor
  · intro hx
    rcases Int.lt_or_le 0 x with c | c
    · exact c
    · have := Int.mul_nonneg (Int.le_of_lt h) (show 0 ≤ -x by omega)
      grind
  · exact fun hx => Int.mul_pos h hx
theorem won_mul {k : Int} (a b : Int) (h : 0 < k) : won (k * a) (k * b) = won a b := by
  unfold won
  obtain ⟨e1, e2⟩ := lo_mul (a := a) (b := b) h
  rw [e1, e2, q_mul]
  have e3 : (0 < k * lo a b) = (0 < lo a b) := propext (mul_pos_iff h)
  have e4 : (0 < k * k * q (hi a b) (lo a b)) = (0 < q (hi a b) (lo a b)) := propext (mul_pos_iff (Int.mul_pos h h))
  have e5 : (k * lo a b = k * hi a b) = (lo a b = hi a b) := propext ⟨fun e => Int.eq_of_mul_eq_mul_left (by omega) e, fun e => by rw [e]⟩
  simp only [e3, e4, e5]
theorem goodE_mul {k : Int} (a b : Int) (h : 0 < k) : goodE (k * a) (k * b) = goodE a b := by
  unfold goodE
  obtain ⟨e1, e2⟩ := lo_mul (a := a) (b := b) h
  rw [e1, e2, Int.mul_ediv_mul_of_pos _ _ h]
  congr 1
  funext t
  have e : k * hi a b - t * (k * lo a b) = k * (hi a b - t * lo a b) := by grind
  rw [e, won_mul _ _ h]
theorem won_le {a b : Int} (h : a ≤ b) : won a b = (decide (0 < a) && (decide (a = b) || decide (0 < q b a))) := by
  unfold won
  obtain ⟨e1, e2⟩ := lo_hi h
  rw [e1, e2]
/-- who is to move, at least and at most once the lesser -/
theorem q_swap (h l : Int) : q l (h - l) = - q h l := by unfold q; grind
theorem q_big {m n : Int} (hn : 0 < n) (h : 2 * n ≤ m) : 0 < q m n := by
  have m1 := q_mono (x := 2 * n) (y := m) (n := n) (by omega) h
  have p := Int.mul_pos hn hn
  have e : q (2 * n) n = n * n := by unfold q; grind
  omega
theorem q_self {n : Int} (hn : 0 < n) : q n n < 0 := by
  have p := Int.mul_pos hn hn
  have e : q n n = -(n * n) := by unfold q; grind
  omega
theorem mem_goodE {a b t : Int} : t ∈ goodE a b ↔ (t = hi a b / lo a b - 1 ∨ t = hi a b / lo a b) ∧ 0 < t ∧ won (lo a b) (hi a b - t * lo a b) = false := by
  unfold goodE
  rw [List.mem_filter, List.mem_filter]
  simp
  constructor
  · rintro ⟨⟨h1, h2⟩, h3⟩; exact ⟨h1, h2, h3⟩
  · rintro ⟨h1, h2, h3⟩; exact ⟨⟨h1, h2⟩, h3⟩
/-- ordered -/
theorem euc {l h : Int} (hl : 0 < l) (hh : l ≤ h) : (goodE l h ≠ []) = (won l h = true) := by
  obtain ⟨el, eh⟩ := lo_hi hh
  have key : (∃ t, t ∈ goodE l h) ↔ won l h = true := by
    constructor
    · rintro ⟨t, ht⟩
      rw [mem_goodE, el, eh] at ht
      obtain ⟨h1, h2, h3⟩ := ht
      cases hw : won l h with
      | true => rfl
      | false =>
        exfalso
        rw [won_le hh] at hw
        simp only [Bool.and_eq_false_iff, decide_eq_false_iff_not, Bool.or_eq_false_iff] at hw
        rcases hw with z | ⟨z1, z2⟩
        · exact z hl
        · have b : h < 2 * l := by
            rcases Int.lt_or_le h (2 * l) with c | c
            · exact c
            · exact absurd (q_big hl c) z2
          have e1 : h / l = 1 := by
            have := Int.ediv_mul_add_emod h l
            have m1 := Int.emod_nonneg h (show l ≠ 0 by omega)
            have m2 := Int.emod_lt_of_pos h hl
            have d1 : 1 ≤ h / l := by
              have := Int.le_ediv_of_mul_le hl (show 1 * l ≤ h by omega); exact this
            have d2 : h / l < 2 := Int.ediv_lt_of_lt_mul hl (by omega)
            omega
          rw [e1] at h1
          have et : t = 1 := by omega
          subst et
          rw [won_comm, won_le (by omega)] at h3
          simp only [Bool.and_eq_false_iff, decide_eq_false_iff_not, Bool.or_eq_false_iff] at h3
          have qn := q_ne (m := h) (n := l) (by omega) hl
          have sw := q_swap h l
          have ex : h - 1 * l = h - l := by omega
          rw [ex] at h3
          rcases h3 with z | ⟨z3, z4⟩
          · exact z (by omega)
          · exact z4 (by omega)
    · intro hw
      rw [won_le hh] at hw
      simp only [Bool.and_eq_true, decide_eq_true_eq, Bool.or_eq_true] at hw
      have dm := Int.ediv_mul_add_emod h l
      have m1 := Int.emod_nonneg h (show l ≠ 0 by omega)
      have m2 := Int.emod_lt_of_pos h hl
      have d1 : 1 ≤ h / l := Int.le_ediv_of_mul_le hl (show 1 * l ≤ h by omega)
      -- the rest
      generalize hk : h / l = k at *
      generalize hr : h % l = r at *
      have hm : h - k * l = r := by omega
      by_cases r0 : r = 0
      · exact ⟨k, by rw [mem_goodE, el, eh, hk, hm, r0]; exact ⟨.inr rfl, by omega, by rw [won_comm, won_le (by omega)]; simp⟩⟩
      · have rp : 0 < r := by omega
        by_cases wl : won l r = false
        · exact ⟨k, by rw [mem_goodE, el, eh, hk, hm]; exact ⟨.inr rfl, by omega, wl⟩⟩
        · have wl' : won l r = true := by cases e : won l r with | true => rfl | false => exact absurd e wl
          rw [won_comm, won_le (by omega)] at wl'
          simp only [Bool.and_eq_true, decide_eq_true_eq, Bool.or_eq_true] at wl'
          have ql : 0 < q l r := by
            rcases wl'.2 with z | z
            · omega
            · exact z
          -- then not once
          have sw : q (l + r) l = - q l r := by unfold q; grind
          by_cases k1 : k = 1
          · exfalso
            have eh2 : h = l + r := by rw [k1] at hm; omega
            rcases hw.2 with z | z
            · omega
            · rw [eh2] at z; omega
          · refine ⟨k - 1, ?_⟩
            rw [mem_goodE, el, eh, hk]
            refine ⟨.inl rfl, by omega, ?_⟩
            have e : h - (k - 1) * l = l + r := by grind
            rw [e, won_le (by omega)]
            simp only [Bool.and_eq_false_iff, decide_eq_false_iff_not, Bool.or_eq_false_iff]
            exact .inr ⟨by omega, by omega⟩
  apply propext
  rw [← key]
  constructor
  · intro hne
    cases e : goodE l h with
    | nil => exact absurd e hne
    | cons t ts => exact ⟨t, by simp⟩
  · rintro ⟨t, ht⟩ e
    rw [e] at ht; cases ht
theorem euc_any {a b : Int} (ha : 0 < a) (hb : 0 < b) : (goodE a b ≠ []) = (won a b = true) := by
  rcases Int.le_total a b with c | c
  · exact euc ha c
  · rw [goodE_comm, won_comm]; exact euc hb c
theorem lost_one {a b : Int} (ha : 0 < a) (hb : 0 < b) (h : won a b = false) : (1 : Int) ∈ goodE (hi a b + lo a b) (lo a b) := by
  have main : ∀ {l g : Int}, 0 < l → l ≤ g → won l g = false → (1 : Int) ∈ goodE (g + l) l := by
    intro l g hl hg hw
    have hw' := hw
    rw [won_le hg] at hw
    simp only [Bool.and_eq_false_iff, decide_eq_false_iff_not, Bool.or_eq_false_iff] at hw
    have b : g < 2 * l := by
      rcases Int.lt_or_le g (2 * l) with c | c
      · exact c
      · rcases hw with z | ⟨_, z⟩
        · omega
        · exact absurd (q_big hl c) z
    rw [goodE_comm, mem_goodE]
    obtain ⟨e1, e2⟩ := lo_hi (show l ≤ g + l by omega)
    rw [e1, e2]
    have d : (g + l) / l = 2 := by
      have d1 : 2 ≤ (g + l) / l := Int.le_ediv_of_mul_le hl (by omega)
      have d2 : (g + l) / l < 3 := Int.ediv_lt_of_lt_mul hl (by omega)
      omega
    rw [d]
    refine ⟨.inl rfl, by decide, ?_⟩
    have : g + l - 1 * l = g := by omega
    rw [this]; exact hw'
  rcases Int.le_total a b with c | c
  · obtain ⟨e1, e2⟩ := lo_hi c
    rw [e1, e2]; exact main ha c h
  · rw [lo_comm, hi_comm]
    obtain ⟨e1, e2⟩ := lo_hi c
    rw [e1, e2]; exact main hb c (by rw [won_comm]; exact h)
theorem good_left {a b t : Int} (ha : 0 < a) (hb : 0 < b) (h : t ∈ goodE a b) : 0 ≤ hi a b - t * lo a b ∧ won (hi a b - t * lo a b) (lo a b) = false := by
  rw [mem_goodE] at h
  obtain ⟨h1, h2, h3⟩ := h
  rw [won_comm]
  refine ⟨?_, h3⟩
  have hl : 0 < lo a b := by unfold lo; split <;> omega
  have dm := Int.ediv_mul_add_emod (hi a b) (lo a b)
  have m1 := Int.emod_nonneg (hi a b) (show lo a b ≠ 0 by omega)
  rcases h1 with e | e
  · rw [e]
    have : (hi a b / lo a b - 1) * lo a b = hi a b / lo a b * lo a b - lo a b := by grind
    omega
  · rw [e]; omega
end Gold

set_option linter.all false
set_option autoImplicit false
namespace Gold
/-! the sums that take each greatest one -/
def F : Nat → Int
  | 0 => 1
  | 1 => 2
  | k + 2 => F (k + 1) + F k
theorem F_pos : ∀ k, 0 < F k
  | 0 => by decide
  | 1 => by decide
  | k + 2 => by have := F_pos k; have := F_pos (k + 1); simp only [F]; omega
theorem F_lt : ∀ k, F k < F (k + 1)
  | 0 => by decide
  | k + 1 => by have := F_pos k; simp only [F]; omega
theorem F_mono {j k : Nat} (h : j ≤ k) : F j ≤ F k := by
  induction k with
  | zero => have : j = 0 := by omega
            subst this; exact Int.le_refl _
  | succ k ih =>
    by_cases e : j = k + 1
    · subst e; exact Int.le_refl _
    · have := ih (by omega); have := F_lt k; omega
theorem F_big : ∀ k : Nat, (k : Int) < F k
  | 0 => by decide
  | k + 1 => by have := F_big k; have := F_lt k; omega
def gr : Nat → Int → List Int
  | 0, _ => []
  | k + 1, n => if F k ≤ n then F k :: gr k (n - F k) else gr k n
theorem gr_more {k : Nat} {n : Int} (h : n < F k) : gr (k + 1) n = gr k n := by
  show (if F k ≤ n then _ else _) = _
  rw [if_neg (by omega)]
theorem gr_far {k : Nat} {n : Int} (h : n < F k) : ∀ d : Nat, gr (k + d) n = gr k n
  | 0 => rfl
  | d + 1 => by
    have := F_mono (show k ≤ k + d by omega)
    rw [show k + (d + 1) = k + d + 1 from rfl, gr_more (by omega), gr_far h d]
/-- what is left is small -/
theorem left_lt {k : Nat} {n : Int} (h : n < F (k + 1)) (h1 : F k ≤ n) : n - F k < F k ∧ (∀ j, k = j + 1 → n - F k < F j) := by
  cases k with
  | zero => have e0 : F 0 = 1 := rfl
            have e1 : F (0 + 1) = 2 := rfl
            exact ⟨by omega, fun j e => by cases e⟩
  | succ j =>
    have e : F (j + 1 + 1) = F (j + 1) + F j := rfl
    have := F_lt j
    exact ⟨by omega, fun i ei => by cases ei; omega⟩
theorem gr_sum : ∀ (k : Nat) {n : Int}, 0 ≤ n → n < F k → (gr k n).sum = n
  | 0, n, h0, h => by have : F 0 = 1 := rfl
                      simp [gr]; omega
  | k + 1, n, h0, h => by
    show (if F k ≤ n then _ else _ : List Int).sum = n
    split
    · rename_i h1
      rw [List.sum_cons, gr_sum k (by omega) (left_lt h h1).1]; omega
    · exact gr_sum k h0 (by omega)
theorem gr_mem : ∀ (k : Nat) {n x : Int}, x ∈ gr k n → ∃ j, j < k ∧ x = F j ∧ x ≤ n
  | 0, n, x, h => by cases h
  | k + 1, n, x, h => by
    change x ∈ (if F k ≤ n then _ else _ : List Int) at h
    split at h
    · rename_i h1
      rcases List.mem_cons.mp h with e | h
      · exact ⟨k, by omega, e, by omega⟩
      · obtain ⟨j, h2, h3, h4⟩ := gr_mem k h
        have := F_pos k
        exact ⟨j, by omega, h3, by omega⟩
    · obtain ⟨j, h2, h3, h4⟩ := gr_mem k h
      exact ⟨j, by omega, h3, h4⟩
/-- neighbours are far apart -/
def apart : List Int → Prop
  | a :: b :: r => 2 * b < a ∧ apart (b :: r)
  | _ => True
theorem gr_apart : ∀ (k : Nat) {n : Int}, 0 ≤ n → n < F k → apart (gr k n)
  | 0, n, h0, h => trivial
  | k + 1, n, h0, h => by
    show apart (if F k ≤ n then _ else _ : List Int)
    split
    · rename_i h1
      obtain ⟨l1, l2⟩ := left_lt h h1
      have ih := gr_apart k (n := n - F k) (by omega) l1
      cases e : gr k (n - F k) with
      | nil => trivial
      | cons b r =>
        rw [e] at ih
        refine ⟨?_, ih⟩
        obtain ⟨j, hj, eb, hb⟩ := gr_mem k (n := n - F k) (x := b) (by rw [e]; simp)
        cases k with
        | zero => omega
        | succ i =>
          have l3 := l2 i rfl
          have : j < i := by
            rcases Nat.lt_or_ge j i with c | c
            · exact c
            · have := F_mono c; omega
          obtain ⟨i', rfl⟩ : ∃ i', i = i' + 1 := ⟨i - 1, by omega⟩
          have ef : F (i' + 1 + 1) = F (i' + 1) + F i' := rfl
          have := F_mono (show j ≤ i' by omega)
          have := F_lt i'
          omega
    · exact gr_apart k h0 (by omega)
theorem gr_nil {k : Nat} {n : Int} (h0 : 0 ≤ n) (h : n < F k) (e : gr k n = []) : n = 0 := by
  have := gr_sum k h0 h
  rw [e] at this
  simpa using this.symm
theorem gr_zero : ∀ k, gr k 0 = []
  | 0 => rfl
  | k + 1 => by
    have := F_pos k
    show (if F k ≤ 0 then _ else _ : List Int) = []
    rw [if_neg (by omega), gr_zero k]
theorem gr_one : ∀ {k j : Nat}, j < k → gr k (F j) = [F j]
  | 0, j, h => by omega
  | k + 1, j, h => by
    show (if F k ≤ F j then _ else _ : List Int) = _
    by_cases e : j = k
    · subst e
      rw [if_pos (Int.le_refl _), Int.sub_self, gr_zero]
    · have h1 := F_mono (show j + 1 ≤ k by omega)
      have h2 := F_lt j
      rw [if_neg (by omega), gr_one (by omega)]
/-- without the last one -/
theorem gr_less : ∀ (k : Nat) {n : Int} {L : List Int} {x : Int}, 0 ≤ n → n < F k → gr k n = L ++ [x] → gr k (n - x) = L
  | 0, n, L, x, h0, h, e => by
    exfalso
    have := congrArg List.length e
    simp [gr] at this
  | k + 1, n, L, x, h0, h, e => by
    have e2 := e
    change (if F k ≤ n then F k :: gr k (n - F k) else gr k n) = L ++ [x] at e2
    split at e2
    · rename_i h1
      obtain ⟨l1, l2⟩ := left_lt h h1
      cases L with
      | nil =>
        injection e2 with e3 e4
        have := gr_nil (by omega) l1 e4
        rw [show n - x = 0 by omega]
        exact gr_zero _
      | cons a L =>
        rw [List.cons_append] at e2
        injection e2 with e3 e4
        have ih := gr_less k (by omega) l1 e4
        obtain ⟨j, hj, ex, hx⟩ := gr_mem k (n := n - F k) (x := x) (by rw [e4]; simp)
        show (if F k ≤ n - x then F k :: gr k (n - x - F k) else gr k (n - x)) = a :: L
        rw [if_pos (by omega), show n - x - F k = n - F k - x by omega, ih, e3]
    · rename_i h1
      have ih := gr_less k h0 (by omega) e2
      obtain ⟨j, hj, ex, hx⟩ := gr_mem k (n := n) (x := x) (by rw [e2]; simp)
      have := F_pos j
      rw [gr_more (by omega), ih]
/-- the parts of a number -/
def parts (n : Int) : List Int := gr n.toNat n
theorem small {n : Int} (h : 0 ≤ n) : n < F n.toNat := by
  have := F_big n.toNat
  omega
theorem parts_at {k : Nat} {n : Int} (h0 : 0 ≤ n) (h : n < F k) : gr k n = parts n := by
  unfold parts
  rcases Nat.le_total k n.toNat with c | c
  · obtain ⟨d, hd⟩ := Nat.le.dest c
    rw [← hd, gr_far h d]
  · obtain ⟨d, hd⟩ := Nat.le.dest c
    rw [← hd, gr_far (small h0) d]
theorem parts_sum {n : Int} (h : 0 ≤ n) : (parts n).sum = n := gr_sum _ h (small h)
theorem parts_apart {n : Int} (h : 0 ≤ n) : apart (parts n) := gr_apart _ h (small h)
theorem parts_ne {n : Int} (h : 0 < n) : parts n ≠ [] := fun e => by
  have := gr_nil (by omega) (small (by omega)) e
  omega
theorem parts_mem {n x : Int} (h : x ∈ parts n) : 0 < x ∧ x ≤ n ∧ parts x = [x] := by
  obtain ⟨j, hj, e, hx⟩ := gr_mem _ h
  have p := F_pos j
  refine ⟨by omega, hx, ?_⟩
  rw [← parts_at (k := j + 1) (by omega) (by rw [e]; exact F_lt j), e]
  exact gr_one (by omega)
theorem parts_less {n x : Int} {L : List Int} (h : 0 ≤ n) (e : parts n = L ++ [x]) : parts (n - x) = L := by
  have hx := parts_mem (n := n) (x := x) (by rw [e]; simp)
  have := gr_less n.toNat h (small h) e
  rw [← this]
  exact (parts_at (by omega) (by have := small h; omega)).symm
end Gold

set_option linter.all false
set_option autoImplicit false
namespace Moore
/-! several heaps at a time -/
def pw : Nat → Int
  | 0 => 1
  | k + 1 => 2 * pw k
theorem pw_pos : ∀ k, 0 < pw k
  | 0 => by decide
  | k + 1 => by have := pw_pos k; simp only [pw]; omega
theorem pw_add (k : Nat) : ∀ d, pw (k + d) = pw k * pw d
  | 0 => by simp [pw]
  | d + 1 => by
    show 2 * pw (k + d) = pw k * (2 * pw d)
    rw [pw_add k d]; grind
theorem pw_above {k j : Nat} (h : k < j) : ∃ r, 0 < r ∧ pw j = 2 * pw k * r := by
  obtain ⟨d, rfl⟩ : ∃ d, j = k + 1 + d := ⟨j - k - 1, by omega⟩
  refine ⟨pw d, pw_pos d, ?_⟩
  rw [pw_add]; rfl
section
variable {x p : Int}
theorem div2 (hx : 0 ≤ x) (hp : 0 < p) : x / p / 2 = x / (2 * p) := by
  rw [Int.ediv_ediv_of_nonneg (by omega), Int.mul_comm]
theorem zero_bit (hx : 0 ≤ x) (hp : 0 < p) (h : x % (2 * p) = 0) : x / p % 2 = 0 := by
  obtain ⟨y, rfl⟩ := Int.dvd_of_emod_eq_zero h
  have e : 2 * p * y / p = 2 * y := by
    rw [show 2 * p * y = (2 * y) * p by grind]
    exact Int.mul_ediv_cancel _ (by omega)
  rw [e]; omega
theorem add_bit (hx : 0 ≤ x) (hp : 0 < p) (h : x % (2 * p) = 0) : (x + p) / p % 2 = 1 := by
  obtain ⟨y, rfl⟩ := Int.dvd_of_emod_eq_zero h
  have e : (2 * p * y + p) / p = 2 * y + 1 := by
    rw [show 2 * p * y + p = (2 * y + 1) * p by grind]
    exact Int.mul_ediv_cancel _ (by omega)
  rw [e]; omega
theorem add_high {r : Int} (hx : 0 ≤ x) (hp : 0 < p) (hr : 0 < r) (h : x % (2 * p) = 0) : (x + p) / (2 * p * r) = x / (2 * p * r) := by
  obtain ⟨y, rfl⟩ := Int.dvd_of_emod_eq_zero h
  have ee : ∀ z : Int, z / (2 * p * r) = z / (2 * p) / r := fun z => (Int.ediv_ediv_of_nonneg (by omega)).symm
  rw [ee, ee]
  congr 1
  rw [Int.mul_ediv_cancel_left _ (by omega), Int.add_comm, Int.add_mul_ediv_left _ _ (by omega), Int.ediv_eq_zero_of_lt (by omega) (by omega)]
  omega
theorem clr_high {r : Int} (hx : 0 ≤ x) (hp : 0 < p) (hr : 0 < r) : (x - x % (2 * p)) / (2 * p * r) = x / (2 * p * r) := by
  have ee : ∀ z : Int, z / (2 * p * r) = z / (2 * p) / r := fun z => (Int.ediv_ediv_of_nonneg (by omega)).symm
  rw [ee, ee]
  congr 1
  have e : x - x % (2 * p) = 2 * p * (x / (2 * p)) := by have := Int.mul_ediv_add_emod x (2 * p); omega
  rw [e, Int.mul_ediv_cancel_left _ (by omega)]
theorem clr_mod (hp : 0 < p) : (x - x % (2 * p)) % (2 * p) = 0 := by
  have e : x - x % (2 * p) = 2 * p * (x / (2 * p)) := by have := Int.mul_ediv_add_emod x (2 * p); omega
  rw [e, Int.mul_emod_right]
theorem bit_ge (hx : 0 ≤ x) (hp : 0 < p) (h : x / p % 2 = 1) : p ≤ x % (2 * p) := by
  have d := div2 hx hp
  have e1 := Int.mul_ediv_add_emod x (2 * p)
  have e2 := Int.mul_ediv_add_emod x p
  have m := Int.emod_nonneg x (show p ≠ 0 by omega)
  have e3 : x / p = 2 * (x / (2 * p)) + 1 := by omega
  rw [e3] at e2
  have e4 : p * (2 * (x / (2 * p)) + 1) = 2 * p * (x / (2 * p)) + p := by grind
  omega
theorem mod_le (hx : 0 ≤ x) (hp : 0 < p) : x % (2 * p) ≤ x := by
  have e1 := Int.mul_ediv_add_emod x (2 * p)
  have e2 := Int.mul_nonneg (show 0 ≤ 2 * p by omega) (Int.ediv_nonneg hx (show 0 ≤ 2 * p by omega))
  omega
theorem half_mod {y : Int} (hp : 0 < p) (h : y % (2 * p) = 0) : y % p = 0 := by
  obtain ⟨z, rfl⟩ := Int.dvd_of_emod_eq_zero h
  rw [show 2 * p * z = p * (2 * z) by grind, Int.mul_emod_right]
theorem add_mod {y : Int} (h : y % (2 * p) = 0) : (y + p) % p = 0 := by
  obtain ⟨z, rfl⟩ := Int.dvd_of_emod_eq_zero h
  rw [show 2 * p * z + p = p * (2 * z + 1) by grind, Int.mul_emod_right]
end
def at_ (l : List Int) (i : Nat) : Int := l.getD i 0
def bit (p x : Int) : Bool := decide (x / p % 2 = 1)
def cnt (p : Int) (l : List Int) : Nat := ((List.range l.length).filter fun i => bit p (at_ l i)).length
theorem map_at (l : List Int) : (List.range l.length).map (at_ l) = l := by
  refine List.ext_getElem? fun i => ?_
  rw [List.getElem?_map]
  by_cases h : i < l.length
  · rw [List.getElem?_range h]
    simp [at_, List.getD, h]
  · rw [List.getElem?_eq_none (by simp; omega), List.getElem?_eq_none (by omega)]; rfl
theorem cnt_filter (p : Int) (l : List Int) : (l.filter (bit p)).length = cnt p l := by
  have h := congrArg (fun z => (List.filter (bit p) z).length) (map_at l)
  rw [List.filter_map, List.length_map] at h
  exact h.symm
def out (m : Nat) (l : List Int) : Bool := (List.range 10).all fun k => decide (cnt (pw k) l % (m + 1) = 0)
def thereL (p : Int) (l : List Int) (fr : List Nat) : List Nat := (List.range l.length).filter fun i => !decide (i ∈ fr) && bit p (at_ l i)
def addAt (p : Int) (l : List Int) (is : List Nat) : List Int := is.foldl (fun l i => l.set i (at_ l i + p)) l
def clrAt (p : Int) (l : List Int) (is : List Nat) : List Int := is.foldl (fun l i => l.set i (at_ l i - at_ l i % (2 * p))) l
def restOf (m : Nat) (p : Int) (l : List Int) (fr : List Nat) : Nat := (thereL p l fr).length % (m + 1)
def putOf (m : Nat) (p : Int) (l : List Int) (fr : List Nat) : Nat := (m + 1 - restOf m p l fr) % (m + 1)
def step (m : Nat) (p : Int) (s : List Int × List Nat) : List Int × List Nat :=
  if putOf m p s.1 s.2 ≤ s.2.length then (addAt p s.1 (s.2.take (putOf m p s.1 s.2)), s.2)
  else (clrAt p s.1 ((thereL p s.1 s.2).take (restOf m p s.1 s.2)), s.2 ++ (thereL p s.1 s.2).take (restOf m p s.1 s.2))
theorem foldl_at (f : Int → Int) : ∀ (is : List Nat) (l : List Int), is.Nodup → (∀ i ∈ is, i < l.length) →
    (is.foldl (fun l i => l.set i (f (at_ l i))) l).length = l.length ∧ ∀ j, at_ (is.foldl (fun l i => l.set i (f (at_ l i))) l) j = if j ∈ is then f (at_ l j) else at_ l j
  | [], l, _, _ => ⟨rfl, fun j => by simp⟩
  | i :: is, l, nd, h => by
    have nd' := List.nodup_cons.mp nd
    have hi := h i List.mem_cons_self
    obtain ⟨h1, h2⟩ := foldl_at f is (l.set i (f (at_ l i))) nd'.2 fun j hj => by rw [List.length_set]; exact h j (List.mem_cons_of_mem _ hj)
    rw [List.foldl_cons]
    refine ⟨by rw [h1, List.length_set], fun j => ?_⟩
    rw [h2]
    have e : ∀ j, at_ (l.set i (f (at_ l i))) j = if j = i then f (at_ l i) else at_ l j := fun j => by
      unfold at_
      rw [List.getD_eq_getElem?_getD, List.getElem?_set]
      by_cases c : i = j
      · subst c; simp [hi]
      · rw [if_neg c, if_neg (fun z => c z.symm), List.getD_eq_getElem?_getD]
    by_cases c : j = i
    · subst c
      rw [if_neg nd'.1, e, if_pos rfl, if_pos List.mem_cons_self]
    · rw [e, if_neg c]
      by_cases d : j ∈ is
      · rw [if_pos d, if_pos (List.mem_cons_of_mem _ d)]
      · rw [if_neg d, if_neg (by rw [List.mem_cons]; exact fun z => z.elim c d)]
theorem addAt_at {p : Int} {l : List Int} {is : List Nat} (nd : is.Nodup) (h : ∀ i ∈ is, i < l.length) : (addAt p l is).length = l.length ∧ ∀ j, at_ (addAt p l is) j = if j ∈ is then at_ l j + p else at_ l j := foldl_at (fun x => x + p) is l nd h
theorem clrAt_at {p : Int} {l : List Int} {is : List Nat} (nd : is.Nodup) (h : ∀ i ∈ is, i < l.length) : (clrAt p l is).length = l.length ∧ ∀ j, at_ (clrAt p l is) j = if j ∈ is then at_ l j - at_ l j % (2 * p) else at_ l j := foldl_at (fun x => x - x % (2 * p)) is l nd h
theorem len_of_mem {n : Nat} {T : List Nat} (nd : T.Nodup) (h : ∀ i ∈ T, i < n) : ((List.range n).filter fun i => decide (i ∈ T)).length = T.length := by
  refine List.Perm.length_eq ((List.perm_ext_iff_of_nodup (List.nodup_range.sublist (List.filter_sublist ..)) nd).mpr fun a => ?_)
  rw [List.mem_filter, List.mem_range, decide_eq_true_eq]
  exact ⟨fun z => z.2, fun z => ⟨h a z, z⟩⟩
theorem cnt_of {p : Int} {l : List Int} {T : List Nat} (nd : T.Nodup) (h : ∀ i ∈ T, i < l.length) (e : ∀ i, i < l.length → (bit p (at_ l i) = true ↔ i ∈ T)) : cnt p l = T.length := by
  rw [← len_of_mem nd h]
  unfold cnt
  congr 1
  refine List.filter_congr fun i hi => ?_
  have := e i (List.mem_range.mp hi)
  by_cases c : i ∈ T
  · rw [this.mpr c, decide_eq_true c]
  · rw [decide_eq_false c]
    cases z : bit p (at_ l i) with
    | true => exact absurd (this.mp z) c
    | false => rfl
theorem cnt_eq {p : Int} {l l' : List Int} (hl : l'.length = l.length) (e : ∀ i, i < l.length → at_ l' i / p = at_ l i / p) : cnt p l' = cnt p l := by
  unfold cnt
  rw [hl]
  congr 1
  refine List.filter_congr fun i hi => ?_
  unfold bit
  rw [e i (List.mem_range.mp hi)]
structure Inv (m : Nat) (hs : List Int) (k : Nat) (l : List Int) (fr : List Nat) : Prop where
  len : l.length = hs.length
  nd : fr.Nodup
  ix : ∀ i ∈ fr, i < hs.length
  same : ∀ i, i ∉ fr → at_ l i = at_ hs i
  nn : ∀ i, 0 ≤ at_ l i
  less : ∀ i ∈ fr, at_ l i + pw k ≤ at_ hs i
  zero : ∀ i ∈ fr, at_ l i % pw k = 0
  done : ∀ j, k ≤ j → cnt (pw j) l % (m + 1) = 0
  few : fr.length ≤ m
theorem Inv.step {m : Nat} {hs : List Int} {k : Nat} {l : List Int} {fr : List Nat} (I : Inv m hs (k + 1) l fr) : Inv m hs k (Moore.step m (pw k) (l, fr)).1 (Moore.step m (pw k) (l, fr)).2 := by
  have pp := pw_pos k
  have hT : (thereL (pw k) l fr).Nodup := List.nodup_range.sublist (List.filter_sublist ..)
  have hTi : ∀ i, i ∈ thereL (pw k) l fr ↔ i < l.length ∧ i ∉ fr ∧ bit (pw k) (at_ l i) = true := fun i => by
    unfold thereL
    rw [List.mem_filter, List.mem_range]
    simp
  have z2 : ∀ i ∈ fr, at_ l i % (2 * pw k) = 0 := I.zero
  have frz : ∀ i ∈ fr, bit (pw k) (at_ l i) = false := fun i hi => by
    unfold bit
    rw [zero_bit (I.nn i) pp (z2 i hi)]; rfl
  unfold Moore.step
  dsimp only
  generalize hr : restOf m (pw k) l fr = r
  generalize hu : putOf m (pw k) l fr = u
  have er : r = (thereL (pw k) l fr).length % (m + 1) := hr.symm
  have eu : u = (m + 1 - r) % (m + 1) := by rw [← hu, ← hr]; rfl
  have rl : r < m + 1 := by rw [er]; exact Nat.mod_lt _ (by omega)
  split
  · rename_i hle
    have ndt : (fr.take u).Nodup := I.nd.sublist (List.take_sublist ..)
    have mt : ∀ i, i ∈ fr.take u → i ∈ fr := fun i hi => List.mem_of_mem_take hi
    have ixt : ∀ i ∈ fr.take u, i < l.length := fun i hi => by rw [I.len]; exact I.ix i (mt i hi)
    obtain ⟨a1, a2⟩ := addAt_at (p := pw k) ndt ixt
    refine ⟨a1.trans I.len, I.nd, I.ix, fun i hi => ?_, fun i => ?_, fun i hi => ?_, fun i hi => ?_, fun j hj => ?_, I.few⟩
    · rw [a2, if_neg (fun z => hi (mt i z))]; exact I.same i hi
    · rw [a2]; have := I.nn i; split <;> omega
    · have h1 := I.less i hi
      have e : pw (k + 1) = 2 * pw k := rfl
      rw [a2]; split <;> omega
    · rw [a2]; split
      · exact add_mod (z2 i hi)
      · exact half_mod pp (z2 i hi)
    · rcases Nat.lt_or_eq_of_le hj with c | c
      · rw [cnt_eq a1 fun i hi => ?_]
        · exact I.done j c
        · rw [a2]; split
          · rename_i hm
            obtain ⟨q, hq, e⟩ := pw_above c
            rw [e]; exact add_high (I.nn i) pp hq (z2 i (mt i hm))
          · rfl
      · subst c
        have dis : ∀ i ∈ thereL (pw k) l fr, i ∉ fr.take u := fun i hi z => ((hTi i).mp hi).2.1 (mt i z)
        rw [cnt_of (T := thereL (pw k) l fr ++ fr.take u) (List.nodup_append.mpr ⟨hT, ndt, fun i hi j hj e => dis i hi (e ▸ hj)⟩) (fun i hi => ?_) (fun i hi => ?_)]
        · rw [List.length_append, List.length_take, Nat.min_eq_left hle, Nat.add_mod, ← er, eu]
          by_cases c : r = 0
          · subst c; simp
          · rw [Nat.mod_mod, Nat.mod_eq_of_lt (show m + 1 - r < m + 1 by omega), show r + (m + 1 - r) = m + 1 by omega, Nat.mod_self]
        · rw [a1]
          rcases List.mem_append.mp hi with z | z
          · exact ((hTi i).mp z).1
          · exact ixt i z
        · rw [a1] at hi
          rw [a2, List.mem_append]
          split
          · rename_i hm
            refine ⟨fun _ => .inr hm, fun _ => ?_⟩
            unfold bit
            exact decide_eq_true (add_bit (I.nn i) pp (z2 i (mt i hm)))
          · rename_i hm
            refine ⟨fun hb => .inl ((hTi i).mpr ⟨hi, fun z => ?_, hb⟩), fun z => z.elim (fun z => ((hTi i).mp z).2.2) fun z => absurd z hm⟩
            rw [frz i z] at hb; cases hb
  · rename_i hle
    have r0 : r ≠ 0 := fun z => by rw [eu, z] at hle; simp at hle
    have u1 : u = m + 1 - r := by rw [eu, Nat.mod_eq_of_lt (by omega)]
    have ndt : ((thereL (pw k) l fr).take r).Nodup := hT.sublist (List.take_sublist ..)
    have mt : ∀ i, i ∈ (thereL (pw k) l fr).take r → i < l.length ∧ i ∉ fr ∧ bit (pw k) (at_ l i) = true := fun i hi => (hTi i).mp (List.mem_of_mem_take hi)
    obtain ⟨a1, a2⟩ := clrAt_at (p := pw k) ndt fun i hi => (mt i hi).1
    have lt : ((thereL (pw k) l fr).take r).length = r := by
      rw [List.length_take, Nat.min_eq_left]
      rw [er]; exact Nat.mod_le _ _
    refine ⟨a1.trans I.len, List.nodup_append.mpr ⟨I.nd, ndt, fun i hi j hj e => (mt j hj).2.1 (e ▸ hi)⟩, fun i hi => ?_, fun i hi => ?_, fun i => ?_, fun i hi => ?_, fun i hi => ?_, fun j hj => ?_, by rw [List.length_append, lt]; omega⟩
    · rcases List.mem_append.mp hi with z | z
      · exact I.ix i z
      · rw [← I.len]; exact (mt i z).1
    · rw [List.mem_append, not_or] at hi
      rw [a2, if_neg hi.2]; exact I.same i hi.1
    · rw [a2]
      have := I.nn i
      split
      · have m1 := Int.emod_nonneg (at_ l i) (show 2 * pw k ≠ 0 by omega)
        have m2 : at_ l i % (2 * pw k) ≤ at_ l i := mod_le (I.nn i) pp
        omega
      · exact this
    · rw [a2]
      split
      · rename_i hm
        have b := bit_ge (I.nn i) pp (of_decide_eq_true (mt i hm).2.2)
        have e := I.same i (mt i hm).2.1
        omega
      · rename_i hm
        have hf := (List.mem_append.mp hi).resolve_right hm
        have h1 := I.less i hf
        have e : pw (k + 1) = 2 * pw k := rfl
        omega
    · rw [a2]
      split
      · exact half_mod pp (clr_mod pp)
      · rename_i hm
        exact half_mod pp (z2 i ((List.mem_append.mp hi).resolve_right hm))
    · rcases Nat.lt_or_eq_of_le hj with c | c
      · rw [cnt_eq a1 fun i hi => ?_]
        · exact I.done j c
        · rw [a2]; split
          · obtain ⟨q, hq, e⟩ := pw_above c
            rw [e]; exact clr_high (I.nn i) pp hq
          · rfl
      · subst c
        have split_ : (thereL (pw k) l fr).take r ++ (thereL (pw k) l fr).drop r = thereL (pw k) l fr := List.take_append_drop ..
        have ndd : ((thereL (pw k) l fr).drop r).Nodup := hT.sublist (List.drop_sublist ..)
        have disj : ∀ i, i ∈ (thereL (pw k) l fr).take r → i ∉ (thereL (pw k) l fr).drop r := fun i h1 h2 => by
          rw [← split_] at hT
          exact (List.nodup_append.mp hT).2.2 i h1 i h2 rfl
        rw [cnt_of (T := (thereL (pw k) l fr).drop r) ndd (fun i hi => ?_) (fun i hi => ?_)]
        · rw [List.length_drop, er]
          have := Nat.div_add_mod (thereL (pw k) l fr).length (m + 1)
          rw [show (thereL (pw k) l fr).length - (thereL (pw k) l fr).length % (m + 1) = (m + 1) * ((thereL (pw k) l fr).length / (m + 1)) by omega]
          exact Nat.mul_mod_right _ _
        · rw [a1]; exact ((hTi i).mp (List.mem_of_mem_drop hi)).1
        · rw [a1] at hi
          rw [a2]
          split
          · rename_i hm
            refine ⟨fun hb => ?_, fun z => absurd z (disj i hm)⟩
            unfold bit at hb
            have hx : 0 ≤ at_ l i - at_ l i % (2 * pw k) := by
              have m2 : at_ l i % (2 * pw k) ≤ at_ l i := mod_le (I.nn i) pp
              omega
            rw [zero_bit hx pp (clr_mod pp)] at hb
            cases hb
          · rename_i hm
            refine ⟨fun hb => ?_, fun z => ((hTi i).mp (List.mem_of_mem_drop z)).2.2⟩
            have hf : i ∉ fr := fun z => by rw [frz i z] at hb; cases hb
            have := (hTi i).mpr ⟨hi, hf, hb⟩
            rw [← split_] at this
            exact (List.mem_append.mp this).resolve_left hm
def run (m : Nat) : Nat → List Int × List Nat → List Int × List Nat
  | 0, s => s
  | k + 1, s => run m k (step m (pw k) s)
theorem Inv.run {m : Nat} {hs : List Int} : ∀ {k : Nat} {s : List Int × List Nat}, Inv m hs k s.1 s.2 → Inv m hs 0 (Moore.run m k s).1 (Moore.run m k s).2
  | 0, s, I => I
  | k + 1, s, I => by
    show Inv m hs 0 (Moore.run m k (Moore.step m (pw k) s)).1 _
    exact Inv.run (k := k) I.step
end Moore

set_option linter.all false
set_option autoImplicit false
namespace Moore
theorem at_nn {hs : List Int} (h : ∀ x ∈ hs, 0 ≤ x) (i : Nat) : 0 ≤ at_ hs i := by
  unfold at_
  rw [List.getD_eq_getElem?_getD]
  cases e : hs[i]? with
  | none => simp
  | some x => exact h x (List.mem_of_getElem? e)
theorem at_lt {hs : List Int} {B : Int} (hB : 0 < B) (h : ∀ x ∈ hs, x < B) (i : Nat) : at_ hs i < B := by
  unfold at_
  rw [List.getD_eq_getElem?_getD]
  cases e : hs[i]? with
  | none => simpa using hB
  | some x => exact h x (List.mem_of_getElem? e)
theorem pw_mono {j k : Nat} (h : j ≤ k) : pw j ≤ pw k := by
  obtain ⟨d, rfl⟩ := Nat.le.dest h
  rw [pw_add]
  have h1 := pw_pos j
  have h2 := pw_pos d
  have := Int.mul_le_mul_of_nonneg_left (show 1 ≤ pw d by omega) (Int.le_of_lt h1)
  omega
theorem cnt_high {hs : List Int} {k : Nat} (h : ∀ x ∈ hs, 0 ≤ x) (hk : ∀ x ∈ hs, x < pw k) {j : Nat} (hj : k ≤ j) : cnt (pw j) hs = 0 := by
  unfold cnt
  rw [List.length_eq_zero_iff, List.filter_eq_nil_iff]
  intro i hi
  unfold bit
  have := pw_mono hj
  have := at_lt (pw_pos k) hk i
  rw [Int.ediv_eq_zero_of_lt (at_nn h i) (by omega)]
  decide
theorem Inv.start {m : Nat} {hs : List Int} {k : Nat} (h : ∀ x ∈ hs, 0 ≤ x) (hk : ∀ x ∈ hs, x < pw k) : Inv m hs k hs [] :=
  ⟨rfl, List.nodup_nil, fun i hi => (by cases hi), fun i _ => rfl, at_nn h, fun i hi => (by cases hi), fun i hi => (by cases hi), fun j hj => (by rw [cnt_high h hk hj]; simp), Nat.zero_le _⟩
structure Told (m : Nat) (hs told : List Int) (fr : List Nat) : Prop where
  len : told.length = hs.length
  nd : fr.Nodup
  ix : ∀ i ∈ fr, i < hs.length
  nn : ∀ i, 0 ≤ at_ told i
  same : ∀ i, i ∉ fr → at_ told i = at_ hs i
  less : ∀ i ∈ fr, at_ told i < at_ hs i
  done : ∀ j, cnt (pw j) told % (m + 1) = 0
  few : fr.length ≤ m
theorem told_of {m : Nat} {hs : List Int} {k : Nat} (h : ∀ x ∈ hs, 0 ≤ x) (hk : ∀ x ∈ hs, x < pw k) : Told m hs (run m k (hs, [])).1 (run m k (hs, [])).2 := by
  have I := Inv.run (s := (hs, [])) (Inv.start (m := m) h hk)
  refine ⟨I.len, I.nd, I.ix, I.nn, I.same, fun i hi => ?_, fun j => I.done j (Nat.zero_le j), I.few⟩
  have h1 : at_ (run m k (hs, [])).1 i + pw 0 ≤ at_ hs i := I.less i hi
  have e : pw 0 = 1 := rfl
  omega
theorem out_all {m : Nat} {hs : List Int} (h : ∀ j, cnt (pw j) hs % (m + 1) = 0) : out m hs = true := by
  unfold out
  rw [List.all_eq_true]
  exact fun j _ => decide_eq_true (h j)
theorem eq_of_at {l l' : List Int} (hl : l'.length = l.length) (h : ∀ i, at_ l' i = at_ l i) : l' = l := by
  rw [← map_at l', ← map_at l, hl]
  exact List.map_congr_left fun i _ => h i
theorem Told.some_ {m : Nat} {hs told : List Int} {fr : List Nat} (T : Told m hs told fr) (h : out m hs = false) : fr ≠ [] := fun e => by
  subst e
  have := eq_of_at T.len fun i => T.same i (by simp)
  subst this
  rw [out_all T.done] at h; cases h
theorem Told.le {m : Nat} {hs told : List Int} {fr : List Nat} (T : Told m hs told fr) (i : Nat) : at_ told i ≤ at_ hs i := by
  by_cases c : i ∈ fr
  · exact Int.le_of_lt (T.less i c)
  · rw [T.same i c]; exact Int.le_refl _
theorem Told.lt_iff {m : Nat} {hs told : List Int} {fr : List Nat} (T : Told m hs told fr) (i : Nat) : at_ told i < at_ hs i ↔ i ∈ fr := by
  constructor
  · intro h
    by_cases c : i ∈ fr
    · exact c
    · rw [T.same i c] at h; omega
  · exact T.less i
/-- how many are less -/
def lessN (hs told : List Int) : Nat := ((List.range hs.length).filter fun i => decide (at_ told i < at_ hs i)).length
theorem Told.count {m : Nat} {hs told : List Int} {fr : List Nat} (T : Told m hs told fr) : lessN hs told = fr.length := by
  unfold lessN
  rw [← len_of_mem T.nd T.ix]
  congr 1
  refine List.filter_congr fun i _ => ?_
  simp only [T.lt_iff i]
/-- beyond ten places nothing counts -/
theorem out_iff {m : Nat} {hs : List Int} (h : ∀ x ∈ hs, 0 ≤ x) (hk : ∀ x ∈ hs, x < 1024) : out m hs = true ↔ ∀ j, cnt (pw j) hs % (m + 1) = 0 := by
  constructor
  · intro o j
    by_cases c : j < 10
    · unfold out at o
      rw [List.all_eq_true] at o
      exact of_decide_eq_true (o j (List.mem_range.mpr c))
    · rw [cnt_high (k := 10) h (fun x hx => by have := hk x hx; exact this) (by omega)]; simp
  · exact out_all
theorem cnt_perm {p : Int} {l l' : List Int} (h : l.Perm l') : cnt p l = cnt p l' := by
  rw [← cnt_filter, ← cnt_filter]
  exact (h.filter _).length_eq
theorem out_perm {m : Nat} {l l' : List Int} (h : l.Perm l') : out m l = out m l' := by
  unfold out
  simp only [cnt_perm h]
theorem cnt_append (p : Int) (l l' : List Int) : cnt p (l ++ l') = cnt p l + cnt p l' := by
  rw [← cnt_filter, ← cnt_filter, ← cnt_filter, List.filter_append, List.length_append]
theorem cnt_rep (p x : Int) (n : Nat) : cnt p (List.replicate n x) = if bit p x = true then n else 0 := by
  rw [← cnt_filter]
  split
  · rename_i h
    rw [List.filter_eq_self.mpr fun a ha => by rw [(List.mem_replicate.mp ha).2]; exact h, List.length_replicate]
  · rename_i h
    rw [List.filter_eq_nil_iff.mpr fun a ha => by rw [(List.mem_replicate.mp ha).2]; exact h]; rfl
theorem out_more (m : Nat) (l : List Int) (x : Int) : out m (l ++ List.replicate (m + 1) x) = out m l := by
  unfold out
  congr 1
  funext j
  rw [cnt_append, cnt_rep]
  split
  · rw [Nat.add_mod_right]
  · rw [Nat.add_zero]
/-- as sums of places -/
theorem cnt_sum (p : Int) : ∀ {l : List Int}, (l.map fun x => x / p % 2).sum = (cnt p l : Int)
  | [] => rfl
  | x :: l => by
    rw [List.map_cons, List.sum_cons, cnt_sum p]
    rw [← cnt_filter, ← cnt_filter, List.filter_cons]
    unfold bit
    have : x / p % 2 = 0 ∨ x / p % 2 = 1 := by omega
    rcases this with e | e <;> rw [e] <;> simp <;> omega
theorem rests_any (m : Nat) (l : List Int) : (((List.range 10).map fun k => (l.map fun x => x / pw k % 2).sum % ((m : Int) + 1)).any fun r => !decide (r = 0)) = !out m l := by
  unfold out
  rw [List.any_map, List.not_all_eq_any_not]
  congr 1
  funext k
  simp only [Function.comp, cnt_sum]
  have e : ((cnt (pw k) l : Int) % ((m : Int) + 1) = 0) ↔ cnt (pw k) l % (m + 1) = 0 := by
    rw [show (m : Int) + 1 = ((m + 1 : Nat) : Int) from rfl, ← Int.natCast_emod]
    omega
  simp [e]
end Moore

set_option linter.all false
set_option autoImplicit false
namespace Gold
/-! good moves of two heaps -/
def mt (s : Int) : Int := if A (near s) = s then A (near s) + near s else if A (near s + 1) = s then A (near s + 1) + (near s + 1) else near s
def pr (a b : Int) : Bool := decide (A (hi a b - lo a b) = lo a b)
def df (a b : Int) : Int × Int := if a < b then (A (if a - b < 0 then -(a - b) else a - b), A (if a - b < 0 then -(a - b) else a - b) + (if a - b < 0 then -(a - b) else a - b)) else (A (if a - b < 0 then -(a - b) else a - b) + (if a - b < 0 then -(a - b) else a - b), A (if a - b < 0 then -(a - b) else a - b))
def gd (a b : Int) : List (Int × Int) := [(a, mt a), (mt b, b), df a b].filter fun z => decide (z.1 ≤ a) && decide (z.2 ≤ b)
theorem pr_comm (a b : Int) : pr a b = pr b a := by unfold pr; rw [lo_comm a b, hi_comm a b]
theorem pr_le {a b : Int} (h : a ≤ b) : pr a b = decide (A (b - a) = a) := by unfold pr; rw [(lo_hi h).1, (lo_hi h).2]
theorem pr_of {n : Int} (h : 0 ≤ n) : pr (A n) (A n + n) = true := by
  rw [pr_le (by omega), decide_eq_true_eq]
  congr 1
  omega
theorem pr_of' {n : Int} (h : 0 ≤ n) : pr (A n + n) (A n) = true := by rw [pr_comm]; exact pr_of h
theorem near_ge {s : Int} (h : 0 ≤ s) : 0 ≤ near s ∧ near s ≤ s := by
  rw [near_eq h]
  have := A_spec h
  omega
theorem mt_cases {s : Int} (h : 0 ≤ s) : (∃ m, 0 ≤ m ∧ A m = s ∧ mt s = s + m) ∨ (0 ≤ mt s ∧ mt s < s ∧ A (s - mt s) = mt s) := by
  have hn := near_ge h
  unfold mt
  split
  · rename_i e; exact .inl ⟨near s, hn.1, e, by rw [e]⟩
  · rename_i e1
    split
    · rename_i e; exact .inl ⟨near s + 1, by omega, e, by rw [e]⟩
    · rename_i e2
      have hs : 0 < s := by
        rcases Int.lt_or_eq_of_le h with c | c
        · exact c
        · exfalso; apply e1; rw [← c]; decide
      rcases mate hs with c | ⟨c, d⟩
      · exact absurd c e2
      · exact .inr ⟨hn.1, d, c⟩
theorem mt_nn {s : Int} (h : 0 ≤ s) : 0 ≤ mt s := by
  rcases mt_cases h with ⟨m, h1, h2, h3⟩ | ⟨h1, h2, h3⟩
  · omega
  · exact h1
theorem pr_mt {s : Int} (h : 0 ≤ s) : pr s (mt s) = true := by
  rcases mt_cases h with ⟨m, h1, h2, h3⟩ | ⟨h1, h2, h3⟩
  · rw [h3, ← h2]; exact pr_of h1
  · rw [pr_comm, pr_le (by omega), decide_eq_true_eq]; exact h3
theorem pr_mt' {s : Int} (h : 0 ≤ s) : pr (mt s) s = true := by rw [pr_comm]; exact pr_mt h
theorem df_lt {a b : Int} (h : a < b) : df a b = (A (b - a), b - a + A (b - a)) := by
  unfold df
  rw [if_pos h, if_pos (by omega), show -(a - b) = b - a by omega, Int.add_comm]
theorem df_ge {a b : Int} (h : b ≤ a) : df a b = (a - b + A (a - b), A (a - b)) := by
  unfold df
  rw [if_neg (by omega), if_neg (by omega), Int.add_comm]
theorem pr_df (a b : Int) : pr (df a b).1 (df a b).2 = true := by
  rcases Int.lt_or_le a b with h | h
  · rw [df_lt h]
    have := pr_of (n := b - a) (by omega)
    rw [Int.add_comm] at this
    exact this
  · rw [df_ge h]
    have := pr_of' (n := a - b) (by omega)
    rw [Int.add_comm] at this
    exact this
theorem mem_gd {a b : Int} {z : Int × Int} : z ∈ gd a b ↔ (z = (a, mt a) ∨ z = (mt b, b) ∨ z = df a b) ∧ z.1 ≤ a ∧ z.2 ≤ b := by
  unfold gd
  rw [List.mem_filter]
  simp
theorem df_swap (a b : Int) : df b a = ((df a b).2, (df a b).1) := by
  rcases Int.lt_trichotomy a b with h | h | h
  · rw [df_lt h, df_ge (Int.le_of_lt h)]
  · subst h
    rw [df_ge (Int.le_refl a)]
    simp only [Int.sub_self, A0, Int.add_zero]
  · rw [df_lt h, df_ge (Int.le_of_lt h)]
theorem gd_swap {a b : Int} {z : Int × Int} : z ∈ gd a b ↔ (z.2, z.1) ∈ gd b a := by
  rw [mem_gd, mem_gd, df_swap a b]
  obtain ⟨x, y⟩ := z
  simp only [Prod.mk.injEq]
  constructor
  · rintro ⟨h | h | h, h1, h2⟩
    · exact ⟨.inr (.inl ⟨h.2, h.1⟩), h2, h1⟩
    · exact ⟨.inl ⟨h.2, h.1⟩, h2, h1⟩
    · exact ⟨.inr (.inr ⟨by rw [← h], by rw [← h]⟩), h2, h1⟩
  · rintro ⟨h | h | h, h1, h2⟩
    · exact ⟨.inr (.inl ⟨h.2, h.1⟩), h2, h1⟩
    · exact ⟨.inl ⟨h.2, h.1⟩, h2, h1⟩
    · exact ⟨.inr (.inr (by rw [h.1, h.2])), h2, h1⟩
theorem gd_nn {a b : Int} (ha : 0 ≤ a) (hb : 0 ≤ b) {z : Int × Int} (h : z ∈ gd a b) : 0 ≤ z.1 ∧ 0 ≤ z.2 := by
  rw [mem_gd] at h
  rcases h.1 with rfl | rfl | rfl
  · exact ⟨ha, mt_nn ha⟩
  · exact ⟨mt_nn hb, hb⟩
  · rcases Int.lt_or_le a b with c | c
    · rw [df_lt c]
      have := A_spec (n := b - a) (by omega)
      exact ⟨by show 0 ≤ A _; omega, by show 0 ≤ b - a + A _; omega⟩
    · rw [df_ge c]
      have := A_spec (n := a - b) (by omega)
      exact ⟨by show 0 ≤ a - b + A _; omega, by show 0 ≤ A _; omega⟩
theorem gd_move {a b : Int} (ha : 0 ≤ a) (hb : 0 ≤ b) (hp : pr a b = false) {z : Int × Int} (h : z ∈ gd a b) :
    pr z.1 z.2 = true ∧ ((a - z.1 = 0 ∧ 0 < b - z.2) ∨ (b - z.2 = 0 ∧ 0 < a - z.1) ∨ (a - z.1 = b - z.2 ∧ 0 < a - z.1)) := by
  have hne : ¬ (z.1 = a ∧ z.2 = b) := fun ⟨e1, e2⟩ => by
    have : pr z.1 z.2 = true := by
      rw [mem_gd] at h
      rcases h.1 with rfl | rfl | rfl
      · exact pr_mt ha
      · exact pr_mt' hb
      · exact pr_df a b
    rw [e1, e2, hp] at this; cases this
  rw [mem_gd] at h
  obtain ⟨h0, h1, h2⟩ := h
  rcases h0 with rfl | rfl | rfl
  · refine ⟨pr_mt ha, .inl ?_⟩
    dsimp only at *; omega
  · refine ⟨pr_mt' hb, .inr (.inl ?_)⟩
    dsimp only at *; omega
  · refine ⟨pr_df a b, .inr (.inr ?_)⟩
    rcases Int.lt_or_le a b with c | c
    · rw [df_lt c] at *; dsimp only at *; omega
    · rw [df_ge c] at *; dsimp only at *; omega
theorem gd_some {a b : Int} (ha : 0 ≤ a) (hab : a ≤ b) (hp : pr a b = false) : ∃ z, z ∈ gd a b := by
  rw [pr_le hab, decide_eq_false_iff_not] at hp
  rcases Int.lt_or_gt_of_ne hp with c | c
  · refine ⟨df a b, mem_gd.mpr ⟨.inr (.inr rfl), ?_⟩⟩
    rcases Int.lt_or_eq_of_le hab with d | d
    · rw [df_lt d]; dsimp only; omega
    · subst d
      rw [df_ge (Int.le_refl a)]
      rw [Int.sub_self] at c ⊢
      dsimp only; omega
  · refine ⟨(a, mt a), mem_gd.mpr ⟨.inl rfl, Int.le_refl _, ?_⟩⟩
    show mt a ≤ b
    rcases mt_cases ha with ⟨m, h1, h2, h3⟩ | ⟨h1, h2, h3⟩
    · have : m < b - a := by
        rcases Int.lt_or_le m (b - a) with d | d
        · exact d
        · have := A_le (show 0 ≤ b - a by omega) d; omega
      omega
    · omega
theorem gd_ne {a b : Int} (ha : 0 ≤ a) (hb : 0 ≤ b) (hp : pr a b = false) : ∃ z, z ∈ gd a b := by
  rcases Int.le_total a b with h | h
  · exact gd_some ha h hp
  · rw [pr_comm] at hp
    obtain ⟨z, hz⟩ := gd_some hb h hp
    exact ⟨(z.2, z.1), gd_swap.mp hz⟩
/-- two sorted lists of the same pairs are one -/
theorem sorted_eq {α : Type} (cd : α → Int) {l1 l2 : List α} (hi : ∀ x ∈ l1, ∀ y ∈ l2, cd x = cd y → x = y) (n1 : l1.Nodup) (n2 : l2.Nodup) (s1 : l1.Pairwise fun x y => cd x ≤ cd y) (s2 : l2.Pairwise fun x y => cd x ≤ cd y) (hm : ∀ x, x ∈ l1 ↔ x ∈ l2) : l1 = l2 :=
  List.Perm.eq_of_pairwise (le := fun x y => cd x ≤ cd y) (fun a b ha hb h1 h2 => hi a ha b hb (by omega)) s1 s2 ((List.perm_ext_iff_of_nodup n1 n2).mpr hm)
end Gold

set_option linter.all false
set_option autoImplicit false
namespace Moore
theorem zip_at {hs told : List Int} (hl : told.length = hs.length) : hs.zip told = (List.range hs.length).map fun i => (at_ hs i, at_ told i) := by
  refine List.ext_getElem? fun i => ?_
  rw [List.getElem?_map]
  by_cases h : i < hs.length
  · rw [List.getElem?_range h]
    have h2 : i < told.length := by omega
    rw [List.getElem?_eq_getElem (by rw [List.length_zip]; omega), List.getElem_zip]
    simp [at_, List.getD, h, h2]
  · rw [List.getElem?_eq_none (by rw [List.length_zip]; omega), List.getElem?_eq_none (by rw [List.length_range]; omega)]; rfl
theorem less_zip {hs told : List Int} (hl : told.length = hs.length) : lessN hs told = ((hs.zip told).filter fun z => decide (z.2 < z.1)).length := by
  rw [zip_at hl, List.filter_map, List.length_map]; rfl
def pick (l : List Int) (o : List Nat) : List Int := o.map (at_ l)
theorem pick_perm {l : List Int} {o : List Nat} (h : o.Perm (List.range l.length)) : (pick l o).Perm l := by
  have := h.map (at_ l)
  rw [map_at] at this
  exact this
theorem pick_zip {hs told : List Int} {o : List Nat} (hl : told.length = hs.length) (h : o.Perm (List.range hs.length)) : ((pick hs o).zip (pick told o)).Perm (hs.zip told) := by
  rw [zip_at hl]
  have e : (pick hs o).zip (pick told o) = o.map fun i => (at_ hs i, at_ told i) := by
    unfold pick
    rw [List.zip_map']
  rw [e]
  exact h.map _
theorem all_zip {hs told : List Int} (hl : told.length = hs.length) : (List.range hs.length).all (fun i => decide (at_ told i ≤ at_ hs i)) = (hs.zip told).all fun z => decide (z.2 ≤ z.1) := by
  rw [zip_at hl, List.all_map]; rfl
theorem less_pick {hs told : List Int} {o : List Nat} (hl : told.length = hs.length) (h : o.Perm (List.range hs.length)) : lessN (pick hs o) (pick told o) = lessN hs told := by
  have hl2 : (pick told o).length = (pick hs o).length := by unfold pick; rw [List.length_map, List.length_map]
  rw [less_zip hl2, less_zip hl]
  exact ((pick_zip hl h).filter _).length_eq
theorem all_pick {hs told : List Int} {o : List Nat} (hl : told.length = hs.length) (h : o.Perm (List.range hs.length)) : (List.range (pick hs o).length).all (fun i => decide (at_ (pick told o) i ≤ at_ (pick hs o) i)) = (List.range hs.length).all (fun i => decide (at_ told i ≤ at_ hs i)) := by
  have hl2 : (pick told o).length = (pick hs o).length := by unfold pick; rw [List.length_map, List.length_map]
  rw [all_zip hl2, all_zip hl]
  exact (pick_zip hl h).all_eq
theorem less_self (hs : List Int) : lessN hs hs = 0 := by
  unfold lessN
  rw [List.length_eq_zero_iff, List.filter_eq_nil_iff]
  intro i _
  simp
/-- what is taken -/
def took (hs told : List Int) : List Int := (hs.zip told).map fun z => z.1 - z.2
theorem took_pos {hs told : List Int} (hl : told.length = hs.length) : ((took hs told).filter fun x => decide (x > 0)).length = lessN hs told := by
  rw [less_zip hl]
  unfold took
  rw [List.filter_map, List.length_map]
  congr 1
  refine List.filter_congr fun z _ => ?_
  show decide (z.1 - z.2 > 0) = _
  congr 1
  exact propext ⟨fun h => by omega, fun h => by omega⟩
theorem took_nn {hs told : List Int} (hl : told.length = hs.length) (h : ∀ i, at_ told i ≤ at_ hs i) : ∀ x ∈ took hs told, 0 ≤ x := by
  intro x hx
  unfold took at hx
  rw [zip_at hl, List.map_map] at hx
  obtain ⟨i, _, rfl⟩ := List.mem_map.mp hx
  have := h i
  show 0 ≤ at_ hs i - at_ told i
  omega
theorem sum_nn : ∀ {l : List Int}, (∀ x ∈ l, 0 ≤ x) → 0 ≤ l.sum ∧ (l.sum = 0 → ∀ x ∈ l, x = 0)
  | [], _ => ⟨by decide, fun _ x hx => by cases hx⟩
  | y :: l, h => by
    obtain ⟨h1, h2⟩ := sum_nn fun x hx => h x (List.mem_cons_of_mem _ hx)
    have h0 := h y List.mem_cons_self
    rw [List.sum_cons]
    refine ⟨by omega, fun e x hx => ?_⟩
    rcases List.mem_cons.mp hx with rfl | z
    · omega
    · exact h2 (by omega) x z
theorem first_only {h t : Int} {hs told : List Int} (hl : (t :: told).length = (h :: hs).length) (hn : ∀ i, at_ (t :: told) i ≤ at_ (h :: hs) i) (e : (took (h :: hs) (t :: told)).sum = h - t) : told = hs := by
  have hn2 := took_nn hl hn
  have e1 : took (h :: hs) (t :: told) = (h - t) :: took hs told := rfl
  rw [e1] at e hn2
  rw [List.sum_cons] at e
  have hz := (sum_nn fun x hx => hn2 x (List.mem_cons_of_mem _ hx)).2 (by omega)
  have hl' : told.length = hs.length := by simpa using hl
  refine eq_of_at hl' fun i => ?_
  by_cases c : i < hs.length
  · have : at_ hs i - at_ told i ∈ took hs told := by
      unfold took
      rw [zip_at hl', List.map_map]
      exact List.mem_map.mpr ⟨i, List.mem_range.mpr c, rfl⟩
    have := hz _ this
    omega
  · unfold at_
    rw [List.getD_eq_getElem?_getD, List.getD_eq_getElem?_getD, List.getElem?_eq_none (by omega), List.getElem?_eq_none (by omega)]
end Moore

set_option Elab.async false
set_option linter.all false
set_option maxRecDepth 100000
set_option maxHeartbeats 0
namespace K22
open PySem PySem.Spec PyProof.Rows L2
def top (i : Nat) : Stmt := PySem.Challenge.pw_whoeverbegins_k22_whole_pairs_grow_from.main.body.getD i (.Pass ⟨0, 0, 0, 0⟩)
abbrev s_is_integer : Stmt := top 6
abbrev s_is_between : Stmt := top 7
abbrev s_are_heaps : Stmt := top 11
abbrev s_root_of : Stmt := top 16
abbrev s_pair_by : Stmt := top 17
abbrev s_wythoff : Stmt := top 18
abbrev s_mate_of : Stmt := top 19
abbrev s_check_two : Stmt := top 20
abbrev s_is_pair : Stmt := top 21
abbrev s_two_win : Stmt := top 22
abbrev s_two_good : Stmt := top 23
abbrev s_is_golden : Stmt := top 24
abbrev s_is_euclid_won : Stmt := top 25
abbrev s_euclid_wins : Stmt := top 26
abbrev s_euclid_good : Stmt := top 27
abbrev s_fibonacci : Stmt := top 28
abbrev s_parts_of : Stmt := top 29
abbrev s_parted : Stmt := top 30
abbrev s_check_double : Stmt := top 31
abbrev s_double_wins : Stmt := top 32
abbrev s_double_take : Stmt := top 33
abbrev s_check_several : Stmt := top 34
abbrev s_comes_out : Stmt := top 35
abbrev s_several_win : Stmt := top 36
abbrev s_high_place : Stmt := top 37
abbrev s_to_come_out : Stmt := top 38
abbrev s_several_to : Stmt := top 39
abbrev s_shows_several_to : Stmt := top 40
abbrev s__law_pot : Stmt := top 42
abbrev s__law_take : Stmt := top 43
abbrev s__law_some : Stmt := top 44
abbrev s__law_places : Stmt := top 45
abbrev s__law_great : Stmt := top 46
abbrev s__law_are_golden_right : Stmt := top 47
abbrev s__law_are_euclids_right : Stmt := top 48
abbrev s__law_are_doubles_right : Stmt := top 49
abbrev s__law_rests : Stmt := top 50
abbrev s__law_are_several_right : Stmt := top 51
abbrev s__law_right : Stmt := top 52
abbrev s_law : Stmt := top 53
def d_is_integer : He.DefD := ⟨("is_integer", none), "is_integer", "is_integer", defArgs s_is_integer, defBody s_is_integer, defScope s_is_integer, [], []⟩
def d_is_between : He.DefD := ⟨("is_between", none), "is_between", "is_between", defArgs s_is_between, defBody s_is_between, defScope s_is_between, [], []⟩
def d_are_heaps : He.DefD := ⟨("are_heaps", none), "are_heaps", "are_heaps", defArgs s_are_heaps, defBody s_are_heaps, defScope s_are_heaps, [], []⟩
def d_root_of : He.DefD := ⟨("root_of", none), "root_of", "root_of", defArgs s_root_of, defBody s_root_of, defScope s_root_of, [], []⟩
def d_pair_by : He.DefD := ⟨("pair_by", none), "pair_by", "pair_by", defArgs s_pair_by, defBody s_pair_by, defScope s_pair_by, [], []⟩
def d_wythoff : He.DefD := ⟨("wythoff", none), "wythoff", "wythoff", defArgs s_wythoff, defBody s_wythoff, defScope s_wythoff, [], []⟩
def d_mate_of : He.DefD := ⟨("mate_of", none), "mate_of", "mate_of", defArgs s_mate_of, defBody s_mate_of, defScope s_mate_of, [], []⟩
def d_check_two : He.DefD := ⟨("check_two", none), "check_two", "check_two", defArgs s_check_two, defBody s_check_two, defScope s_check_two, [], []⟩
def d_is_pair : He.DefD := ⟨("is_pair", none), "is_pair", "is_pair", defArgs s_is_pair, defBody s_is_pair, defScope s_is_pair, [], []⟩
def d_two_win : He.DefD := ⟨("two_win", none), "two_win", "two_win", defArgs s_two_win, defBody s_two_win, defScope s_two_win, [], []⟩
def d_two_good : He.DefD := ⟨("two_good", none), "two_good", "two_good", defArgs s_two_good, defBody s_two_good, defScope s_two_good, [], []⟩
def d_is_golden : He.DefD := ⟨("is_golden", none), "is_golden", "is_golden", defArgs s_is_golden, defBody s_is_golden, defScope s_is_golden, [], []⟩
def d_is_euclid_won : He.DefD := ⟨("is_euclid_won", none), "is_euclid_won", "is_euclid_won", defArgs s_is_euclid_won, defBody s_is_euclid_won, defScope s_is_euclid_won, [], []⟩
def d_euclid_wins : He.DefD := ⟨("euclid_wins", none), "euclid_wins", "euclid_wins", defArgs s_euclid_wins, defBody s_euclid_wins, defScope s_euclid_wins, [], []⟩
def d_euclid_good : He.DefD := ⟨("euclid_good", none), "euclid_good", "euclid_good", defArgs s_euclid_good, defBody s_euclid_good, defScope s_euclid_good, [], []⟩
def d_fibonacci : He.DefD := ⟨("fibonacci", none), "fibonacci", "fibonacci", defArgs s_fibonacci, defBody s_fibonacci, defScope s_fibonacci, [], []⟩
def d_parts_of : He.DefD := ⟨("parts_of", none), "parts_of", "parts_of", defArgs s_parts_of, defBody s_parts_of, defScope s_parts_of, [], []⟩
def d_parted : He.DefD := ⟨("parted", none), "parted", "parted", defArgs s_parted, defBody s_parted, defScope s_parted, [], []⟩
def d_check_double : He.DefD := ⟨("check_double", none), "check_double", "check_double", defArgs s_check_double, defBody s_check_double, defScope s_check_double, [], []⟩
def d_double_wins : He.DefD := ⟨("double_wins", none), "double_wins", "double_wins", defArgs s_double_wins, defBody s_double_wins, defScope s_double_wins, [], []⟩
def d_double_take : He.DefD := ⟨("double_take", none), "double_take", "double_take", defArgs s_double_take, defBody s_double_take, defScope s_double_take, [], []⟩
def d_check_several : He.DefD := ⟨("check_several", none), "check_several", "check_several", defArgs s_check_several, defBody s_check_several, defScope s_check_several, [], []⟩
def d_comes_out : He.DefD := ⟨("comes_out", none), "comes_out", "comes_out", defArgs s_comes_out, defBody s_comes_out, defScope s_comes_out, [], []⟩
def d_several_win : He.DefD := ⟨("several_win", none), "several_win", "several_win", defArgs s_several_win, defBody s_several_win, defScope s_several_win, [], []⟩
def d_high_place : He.DefD := ⟨("high_place", none), "high_place", "high_place", defArgs s_high_place, defBody s_high_place, defScope s_high_place, [], []⟩
def d_to_come_out : He.DefD := ⟨("to_come_out", none), "to_come_out", "to_come_out", defArgs s_to_come_out, defBody s_to_come_out, defScope s_to_come_out, [], []⟩
def d_several_to : He.DefD := ⟨("several_to", none), "several_to", "several_to", defArgs s_several_to, defBody s_several_to, defScope s_several_to, [], []⟩
def d_shows_several_to : He.DefD := ⟨("shows_several_to", none), "shows_several_to", "shows_several_to", defArgs s_shows_several_to, defBody s_shows_several_to, defScope s_shows_several_to, [], []⟩
def d__law_pot : He.DefD := ⟨("_law_pot", none), "_law_pot", "_law_pot", defArgs s__law_pot, defBody s__law_pot, defScope s__law_pot, [], []⟩
def d__law_take : He.DefD := ⟨("_law_take", none), "_law_take", "_law_take", defArgs s__law_take, defBody s__law_take, defScope s__law_take, [], []⟩
def d__law_some : He.DefD := ⟨("_law_some", none), "_law_some", "_law_some", defArgs s__law_some, defBody s__law_some, defScope s__law_some, [], []⟩
def d__law_places : He.DefD := ⟨("_law_places", none), "_law_places", "_law_places", defArgs s__law_places, defBody s__law_places, defScope s__law_places, [], []⟩
def d__law_great : He.DefD := ⟨("_law_great", none), "_law_great", "_law_great", defArgs s__law_great, defBody s__law_great, defScope s__law_great, [], []⟩
def d__law_are_golden_right : He.DefD := ⟨("_law_are_golden_right", none), "_law_are_golden_right", "_law_are_golden_right", defArgs s__law_are_golden_right, defBody s__law_are_golden_right, defScope s__law_are_golden_right, [], []⟩
def d__law_are_euclids_right : He.DefD := ⟨("_law_are_euclids_right", none), "_law_are_euclids_right", "_law_are_euclids_right", defArgs s__law_are_euclids_right, defBody s__law_are_euclids_right, defScope s__law_are_euclids_right, [], []⟩
def d__law_are_doubles_right : He.DefD := ⟨("_law_are_doubles_right", none), "_law_are_doubles_right", "_law_are_doubles_right", defArgs s__law_are_doubles_right, defBody s__law_are_doubles_right, defScope s__law_are_doubles_right, [], []⟩
def d__law_rests : He.DefD := ⟨("_law_rests", none), "_law_rests", "_law_rests", defArgs s__law_rests, defBody s__law_rests, defScope s__law_rests, [], []⟩
def d__law_are_several_right : He.DefD := ⟨("_law_are_several_right", none), "_law_are_several_right", "_law_are_several_right", defArgs s__law_are_several_right, defBody s__law_are_several_right, defScope s__law_are_several_right, [], []⟩
def d__law_right : He.DefD := ⟨("_law_right", none), "_law_right", "_law_right", defArgs s__law_right, defBody s__law_right, defScope s__law_right, [], []⟩
def d_law : He.DefD := ⟨("law", none), "law", "law", defArgs s_law, defBody s_law, defScope s_law, [], []⟩
def fn : List He.DefD := [d_is_integer, d_is_between, d_are_heaps, d_root_of, d_pair_by, d_wythoff, d_mate_of, d_check_two, d_is_pair, d_two_win, d_two_good, d_is_golden, d_is_euclid_won, d_euclid_wins, d_euclid_good, d_fibonacci, d_parts_of, d_parted, d_check_double, d_double_wins, d_double_take, d_check_several, d_comes_out, d_several_win, d_high_place, d_to_come_out, d_several_to, d_shows_several_to, d__law_pot, d__law_take, d__law_some, d__law_places, d__law_great, d__law_are_golden_right, d__law_are_euclids_right, d__law_are_doubles_right, d__law_rests, d__law_are_several_right, d__law_right, d_law]
def fa : List He.Fa := [.glo "is_integer", .glo "is_between", .glo "are_heaps", .glo "root_of", .glo "pair_by", .glo "wythoff", .glo "mate_of", .glo "check_two", .glo "is_pair", .glo "two_win", .glo "two_good", .glo "is_golden", .glo "is_euclid_won", .glo "euclid_wins", .glo "euclid_good", .glo "fibonacci", .glo "parts_of", .glo "parted", .glo "check_double", .glo "double_wins", .glo "double_take", .glo "check_several", .glo "comes_out", .glo "several_win", .glo "high_place", .glo "to_come_out", .glo "several_to", .glo "shows_several_to", .glo "_law_pot", .glo "_law_take", .glo "_law_some", .glo "_law_places", .glo "_law_great", .glo "_law_are_golden_right", .glo "_law_are_euclids_right", .glo "_law_are_doubles_right", .glo "_law_rests", .glo "_law_are_several_right", .glo "_law_right", .glo "law", .free "isinstance", .free "int", .free "bool", .free "tuple", .free "len", .free "all", .free "range", .free "max", .free "min", .free "abs", .free "sorted", .free "set", .free "sum", .free "list", .free "zip", .free "enumerate", .free "any", .free "repr", .int "MOST_HEAPS" 12, .int "MOST_SIZE" 400, .int "MOST_HEAP" 1000000000000, .int "MOST_PAIR" 1000000000, .int "MOST_TAKEN" 12]
def ex (K : PySem.W.Frag) : Bool := true
abbrev R : PySem.W.OpenRow := PySem.W.OpenLaw.row PySem.Challenge.rw_whoeverbegins_k22_whole_pairs_grow_from
abbrev hk : PySem.W.Hook := PL.hookE 4 fa fn ex
def ob (s : PySem.W.SharedT) : PL.AlE := PL.obsEG 4 fa fn ex (HandSHeadRun.getT s)
theorem ob_eq (s : PySem.W.SharedT) : ob s = hk.obs s.abs := PL.obsEG_eq (HandSHeadRun.getT_eq s)
def loose : List PySem.Str := (["PlayError", "BadHeaps", "BadNumber", "BadPair", "is_integer", "is_between", "MOST_HEAPS", "MOST_SIZE", "are_heaps", "MOST_HEAP", "MOST_PAIR", "MOST_TAKEN", "root_of", "pair_by", "wythoff", "mate_of", "check_two", "is_pair", "two_win", "two_good", "is_golden", "is_euclid_won", "euclid_wins", "euclid_good", "fibonacci", "parts_of", "parted", "check_double", "double_wins", "double_take"] : List PySem.Str) ++ (["check_several", "comes_out", "several_win", "high_place", "to_come_out", "several_to", "shows_several_to", "_law_pot", "_law_take", "_law_some", "_law_places", "_law_great", "_law_are_golden_right", "_law_are_euclids_right", "_law_are_doubles_right", "_law_rests", "_law_are_several_right", "_law_right"] : List PySem.Str)
theorem run (w : World) : HandSHeadRun.RunEq R (PySem.W.view R.prog [53]) hk ob 3000 loose w := by
  intro os
  kernel_rfl
end K22

set_option Elab.async false
set_option linter.all false
set_option maxRecDepth 100000
namespace K22
open PySem PySem.Spec PyProof.Rows L2 Evl PL
/-! ### what comes back -/
abbrev Ai (n : Int) : Int := Gold.A n
def mateI (s : Int) : Int := if Gold.A (Gold.near s) = s then Gold.A (Gold.near s) + Gold.near s else if Gold.A (Gold.near s + 1) = s then Gold.A (Gold.near s + 1) + (Gold.near s + 1) else Gold.near s
def pairB (a b : Int) : Bool := decide (Gold.A (Gold.hi a b - Gold.lo a b) = Gold.lo a b)
def diffP (a b : Int) : Int × Int := if a < b then (Gold.A (if a - b < 0 then -(a - b) else a - b), Gold.A (if a - b < 0 then -(a - b) else a - b) + (if a - b < 0 then -(a - b) else a - b)) else (Gold.A (if a - b < 0 then -(a - b) else a - b) + (if a - b < 0 then -(a - b) else a - b), Gold.A (if a - b < 0 then -(a - b) else a - b))
def goodL (a b : Int) : List (Int × Int) := [(a, mateI a), (mateI b, b), diffP a b].filter fun z => decide (z.1 ≤ a) && decide (z.2 ≤ b)
def GoodZ (a b : Int) (zs : List (Int × Int)) : Prop := if pairB a b = true then zs = [] else (∀ z, z ∈ zs ↔ z ∈ goodL a b) ∧ zs.Nodup ∧ zs.Pairwise (fun x y => cdP (10 ^ 14) x ≤ cdP (10 ^ 14) y)
@[irreducible] def partsI (n : Int) : List Int := Gold.parts n
@[irreducible] def lastI (n : Int) : Int := (Gold.parts n).getLastD 0
@[irreducible] def goodI (a b : Int) : List Int := Gold.goodE a b
@[irreducible] def wonI (a b : Int) : Bool := Gold.won a b
@[irreducible] def outI (m : Int) (hs : List Int) : Bool := Moore.out m.toNat hs
def heapsB (hs : List Int) : Bool := decide (hs.length ≤ 12) && hs.all fun x => decide (0 ≤ x) && decide (x ≤ 400)
def HsOk (hs : List Int) : Prop := hs.length ≤ 12 ∧ ∀ x ∈ hs, 0 ≤ x ∧ x ≤ 400
def showsB (hs : List Int) (m : Int) (vs : List Int) : Bool :=
  heapsB vs && decide (vs.length = hs.length) && (List.range hs.length).all (fun i => decide (Moore.at_ vs i ≤ Moore.at_ hs i)) && (decide (1 ≤ (Moore.lessN hs vs : Int)) && decide ((Moore.lessN hs vs : Int) ≤ m) && outI m vs)
/-! ### promises -/
def S_is_integer : PSp := fun ps c Q => ∃ i : Int, ps = [.int i] ∧ Q (.bl true) c
def S_is_between : PSp := fun ps c Q => ∃ v l m : Int, ps = [.int v, .int l, .int m] ∧ Q (.bl (decide (l ≤ v) && decide (v ≤ m))) c
def S_are_heaps : PSp := fun ps c Q => ∃ hs : List Int, ps = [.tup (hs.map P.int)] ∧ hs.length ≤ 90000 ∧ Q (.bl (heapsB hs)) c
def S_root_of : PSp := fun ps c Q => ∃ n : Int, ps = [.int n] ∧ (0 ≤ n ∧ n < 2 ^ 120) ∧ Q (.int (Gold.rt n)) c
def S_pair_by : PSp := fun ps c Q => ∃ n : Int, ps = [.int n] ∧ (0 ≤ n ∧ n ≤ 10 ^ 13) ∧ Q (.tup [.int (Ai n), .int (Ai n + n)]) c
def S_wythoff : PSp := fun ps c Q => ∃ n : Int, ps = [.int n] ∧ (0 ≤ n ∧ n ≤ 10 ^ 9) ∧ Q (.tup [.int (Ai n), .int (Ai n + n)]) c
def S_mate_of : PSp := fun ps c Q => ∃ n : Int, ps = [.int n] ∧ (0 ≤ n ∧ n ≤ 10 ^ 12) ∧ Q (.int (mateI n)) c
def S_check_two : PSp := fun ps c Q => ∃ a b l : Int, ps = [.int a, .int b, .int l] ∧ (l ≤ a ∧ a ≤ 10 ^ 12 ∧ l ≤ b ∧ b ≤ 10 ^ 12) ∧ Q .non c
def S_is_pair : PSp := fun ps c Q => ∃ a b : Int, ps = [.int a, .int b] ∧ (0 ≤ a ∧ a ≤ 10 ^ 12 ∧ 0 ≤ b ∧ b ≤ 10 ^ 12) ∧ Q (.bl (pairB a b)) c
def S_two_win : PSp := fun ps c Q => ∃ a b : Int, ps = [.int a, .int b] ∧ (0 ≤ a ∧ a ≤ 10 ^ 12 ∧ 0 ≤ b ∧ b ≤ 10 ^ 12) ∧ Q (.bl (!pairB a b)) c
def S_two_good : PSp := fun ps c Q => ∃ a b : Int, ps = [.int a, .int b] ∧ (0 ≤ a ∧ a ≤ 10 ^ 12 ∧ 0 ≤ b ∧ b ≤ 10 ^ 12) ∧ ∀ zs, GoodZ a b zs → Q (.tup (zs.map pairI)) c
def S_is_golden : PSp := fun ps c Q => ∃ a b : Int, ps = [.int a, .int b] ∧ (0 ≤ a ∧ a < 2 ^ 60 ∧ 0 ≤ b ∧ b < 2 ^ 60) ∧ Q (.bl (decide (0 < Gold.q a b))) c
def S_is_euclid_won : PSp := fun ps c Q => ∃ a b : Int, ps = [.int a, .int b] ∧ (0 ≤ a ∧ a < 2 ^ 60 ∧ 0 ≤ b ∧ b < 2 ^ 60) ∧ Q (.bl (wonI a b)) c
def S_euclid_wins : PSp := fun ps c Q => ∃ a b : Int, ps = [.int a, .int b] ∧ (1 ≤ a ∧ a ≤ 10 ^ 12 ∧ 1 ≤ b ∧ b ≤ 10 ^ 12) ∧ Q (.bl (wonI a b)) c
def S_euclid_good : PSp := fun ps c Q => ∃ a b : Int, ps = [.int a, .int b] ∧ (1 ≤ a ∧ a ≤ 10 ^ 12 ∧ 1 ≤ b ∧ b ≤ 10 ^ 12) ∧ Q (.tup ((goodI a b).map P.int)) c
def S_fibonacci : PSp := fun ps c Q => ∃ n : Int, ps = [.int n] ∧ (1 ≤ n ∧ n ≤ 10 ^ 12) ∧ ∀ k : Nat, k < 90000 → (∀ i, i < k → Gold.F i ≤ n) → n < Gold.F k → Q (.lst ((List.range k).map fun i => P.int (Gold.F i))) c
def S_parts_of : PSp := fun ps c Q => ∃ n : Int, ps = [.int n] ∧ (1 ≤ n ∧ n ≤ 10 ^ 12) ∧ Q (.tup ((partsI n).map P.int)) c
abbrev S_parted := S_parts_of
def S_check_double : PSp := fun ps c Q => ∃ a b : Int, ps = [.int a, .int b] ∧ (1 ≤ a ∧ a ≤ 10 ^ 12 ∧ 1 ≤ b ∧ b ≤ 10 ^ 12) ∧ Q .non c
def S_double_wins : PSp := fun ps c Q => ∃ a b : Int, ps = [.int a, .int b] ∧ (1 ≤ a ∧ a ≤ 10 ^ 12 ∧ 1 ≤ b ∧ b ≤ 10 ^ 12) ∧ Q (.bl (decide (lastI a ≤ b))) c
def S_double_take : PSp := fun ps c Q => ∃ a b : Int, ps = [.int a, .int b] ∧ (1 ≤ a ∧ a ≤ 10 ^ 12 ∧ 1 ≤ b ∧ b ≤ 10 ^ 12) ∧ Q (if decide (lastI a ≤ b) = true then .int (lastI a) else .non) c
def S_check_several : PSp := fun ps c Q => ∃ (hs : List Int) (m : Int), ps = [.tup (hs.map P.int), .int m] ∧ (HsOk hs ∧ 1 ≤ m ∧ m ≤ 12) ∧ Q .non c
def S_comes_out : PSp := fun ps c Q => ∃ (hs : List Int) (m : Int), ps = [.tup (hs.map P.int), .int m] ∧ (HsOk hs ∧ 1 ≤ m ∧ m ≤ 12) ∧ Q (.bl (outI m hs)) c
def S_several_win : PSp := fun ps c Q => ∃ (hs : List Int) (m : Int), ps = [.tup (hs.map P.int), .int m] ∧ (HsOk hs ∧ 1 ≤ m ∧ m ≤ 12) ∧ Q (.bl (!outI m hs)) c
def S_high_place : PSp := fun ps c Q => ∃ hs : List Int, ps = [.tup (hs.map P.int)] ∧ HsOk hs ∧ ∀ k : Nat, k ≤ 9 → (∀ x ∈ hs, x < Moore.pw (k + 1)) → Q (.int (Moore.pw k)) c
def S_to_come_out : PSp := fun ps c Q => ∃ (hs : List Int) (m : Int), ps = [.tup (hs.map P.int), .int m] ∧ (HsOk hs ∧ 1 ≤ m ∧ m ≤ 12) ∧ ∀ told fr, Moore.Told m.toNat hs told fr → Q (.tup (told.map P.int)) c
def S_several_to : PSp := fun ps c Q => ∃ (hs : List Int) (m : Int), ps = [.tup (hs.map P.int), .int m] ∧ (HsOk hs ∧ 1 ≤ m ∧ m ≤ 12) ∧ ∀ told fr, Moore.Told m.toNat hs told fr → Q (if outI m hs = true then .non else .tup (told.map P.int)) c
def S_shows_several_to : PSp := fun ps c Q => ∃ (hs : List Int) (m : Int) (v : P), ps = [.tup (hs.map P.int), .int m, v] ∧ (HsOk hs ∧ 1 ≤ m ∧ m ≤ 12) ∧ ((v = .non ∧ Q (.bl (outI m hs)) c) ∨ ∃ vs : List Int, v = .tup (vs.map P.int) ∧ vs.length ≤ 90000 ∧ Q (.bl (showsB hs m vs)) c)
/-! ### the draws -/
def IsPot (k : Nat) (o : Ob) : Prop := ∃ a b n : Int, o = .lst [.int a, .int b, .int n] ∧ (0 ≤ a ∧ a < 10 ^ 300) ∧ (0 ≤ b ∧ b < 2 ^ 61) ∧ 0 ≤ n ∧ n ≤ k
def S_law_pot : PSp := fun ps c Q => ∃ (ns : List Int) (i : Int), ps = [.klst (ns.map P.int), .int i] ∧ (0 ≤ i ∧ i < 3) ∧ ∀ o, IsPot 0 o → Q (.cell c.length) (c ++ [o])
def S_law_take : PSp := fun ps c Q => ∃ (n : Nat) (u : Int) (k : Nat) (o : Ob), ps = [.cell n, .int u] ∧ (c[n]? = some o ∧ IsPot k o ∧ k ≤ 1000) ∧ (0 < u ∧ u < 1073741824) ∧ ∀ r o', (0 ≤ r ∧ r < u) → IsPot (k + 1) o' → Q (.int r) (c.set n o')
def S_law_some : PSp := fun ps c Q => ∃ (n : Nat) (s : P) (ns : List Int) (k : Nat) (o : Ob), ps = [.cell n, s, .int (ns.length : Int)] ∧ (∀ c', SeqOf c' s (ns.map P.int)) ∧ (c[n]? = some o ∧ IsPot k o ∧ k ≤ 900) ∧ ns.length ≤ 60 ∧ ∀ (ms : List Int) o', ms.Perm ns → IsPot (k + ns.length) o' → Q (.lst (ms.map P.int)) (c.set n o')
def S_law_places : PSp := fun ps c Q => ∃ (ns : List Int), ps = [.klst (ns.map P.int), .int 3] ∧ ns.length ≤ 63 ∧ ∀ n, 1 ≤ n → n ≤ 3 → Q (.lst (rangeP 0 n)) c
def S_law_great : PSp := fun ps c Q => ∃ (n k : Nat) (o : Ob) (m : Int), ps = [.cell n, .int m] ∧ (c[n]? = some o ∧ IsPot k o ∧ k ≤ 900) ∧ (1 ≤ m ∧ m ≤ 11) ∧ ∀ r o', (1 ≤ r ∧ r < 10 ^ m.toNat) → IsPot (k + 13) o' → Q (.int r) (c.set n o')
def S_law_are_golden_right : PSp := fun ps c Q => ∃ (n k : Nat) (o : Ob), ps = [.cell n] ∧ (c[n]? = some o ∧ IsPot k o ∧ k ≤ 400) ∧ ∀ o', IsPot (k + 40) o' → Q (.bl true) (c.set n o')
def S_law_are_euclids_right : PSp := fun ps c Q => ∃ (n k : Nat) (o : Ob), ps = [.cell n] ∧ (c[n]? = some o ∧ IsPot k o ∧ k ≤ 400) ∧ ∀ o', IsPot (k + 40) o' → Q (.bl true) (c.set n o')
def S_law_are_doubles_right : PSp := fun ps c Q => ∃ (n k : Nat) (o : Ob), ps = [.cell n] ∧ (c[n]? = some o ∧ IsPot k o ∧ k ≤ 400) ∧ ∀ o', IsPot (k + 40) o' → Q (.bl true) (c.set n o')
def S_law_rests : PSp := fun ps c Q => ∃ (hs : List Int) (m : Int), ps = [.lst (hs.map P.int), .int m] ∧ (hs.length ≤ 20 ∧ 1 ≤ m ∧ m ≤ 12) ∧ Q (.lst (((List.range 10).map fun k => (hs.map fun x => x / Moore.pw k % 2).sum % (m + 1)).map P.int)) c
def S_law_are_several_right : PSp := fun ps c Q => ∃ (n k : Nat) (o : Ob), ps = [.cell n] ∧ (c[n]? = some o ∧ IsPot k o ∧ k ≤ 400) ∧ ∀ o', Q (.bl true) (c.set n o')
def S_law_right : PSp := fun ps c Q => ∃ (n : Nat) (o : Ob), ps = [.cell n] ∧ (c[n]? = some o ∧ IsPot 0 o) ∧ ∀ o', Q (.bl true) (c.set n o')
/-! ### what the top has left -/
structure GF (K : PySem.W.Frag) (mg : Str → Option Value) : Prop where
  d_is_integer : DefAt K mg "is_integer" s_is_integer
  d_is_between : DefAt K mg "is_between" s_is_between
  d_are_heaps : DefAt K mg "are_heaps" s_are_heaps
  d_root_of : DefAt K mg "root_of" s_root_of
  d_pair_by : DefAt K mg "pair_by" s_pair_by
  d_wythoff : DefAt K mg "wythoff" s_wythoff
  d_mate_of : DefAt K mg "mate_of" s_mate_of
  d_check_two : DefAt K mg "check_two" s_check_two
  d_is_pair : DefAt K mg "is_pair" s_is_pair
  d_two_win : DefAt K mg "two_win" s_two_win
  d_two_good : DefAt K mg "two_good" s_two_good
  d_is_golden : DefAt K mg "is_golden" s_is_golden
  d_is_euclid_won : DefAt K mg "is_euclid_won" s_is_euclid_won
  d_euclid_wins : DefAt K mg "euclid_wins" s_euclid_wins
  d_euclid_good : DefAt K mg "euclid_good" s_euclid_good
  d_fibonacci : DefAt K mg "fibonacci" s_fibonacci
  d_parts_of : DefAt K mg "parts_of" s_parts_of
  d_parted : DefAt K mg "parted" s_parted
  d_check_double : DefAt K mg "check_double" s_check_double
  d_double_wins : DefAt K mg "double_wins" s_double_wins
  d_double_take : DefAt K mg "double_take" s_double_take
  d_check_several : DefAt K mg "check_several" s_check_several
  d_comes_out : DefAt K mg "comes_out" s_comes_out
  d_several_win : DefAt K mg "several_win" s_several_win
  d_high_place : DefAt K mg "high_place" s_high_place
  d_to_come_out : DefAt K mg "to_come_out" s_to_come_out
  d_several_to : DefAt K mg "several_to" s_several_to
  d_shows_several_to : DefAt K mg "shows_several_to" s_shows_several_to
  d__law_pot : DefAt K mg "_law_pot" s__law_pot
  d__law_take : DefAt K mg "_law_take" s__law_take
  d__law_some : DefAt K mg "_law_some" s__law_some
  d__law_places : DefAt K mg "_law_places" s__law_places
  d__law_great : DefAt K mg "_law_great" s__law_great
  d__law_are_golden_right : DefAt K mg "_law_are_golden_right" s__law_are_golden_right
  d__law_are_euclids_right : DefAt K mg "_law_are_euclids_right" s__law_are_euclids_right
  d__law_are_doubles_right : DefAt K mg "_law_are_doubles_right" s__law_are_doubles_right
  d__law_rests : DefAt K mg "_law_rests" s__law_rests
  d__law_are_several_right : DefAt K mg "_law_are_several_right" s__law_are_several_right
  d__law_right : DefAt K mg "_law_right" s__law_right
  d_law : DefAt K mg "law" s_law
  b_isinstance : mg "isinstance" = none
  b_int : mg "int" = none
  b_bool : mg "bool" = none
  b_tuple : mg "tuple" = none
  b_len : mg "len" = none
  b_all : mg "all" = none
  b_range : mg "range" = none
  b_max : mg "max" = none
  b_min : mg "min" = none
  b_abs : mg "abs" = none
  b_sorted : mg "sorted" = none
  b_set : mg "set" = none
  b_sum : mg "sum" = none
  b_list : mg "list" = none
  b_zip : mg "zip" = none
  b_enumerate : mg "enumerate" = none
  b_any : mg "any" = none
  b_repr : mg "repr" = none
  c_MOST_HEAPS : ∃ t, mg "MOST_HEAPS" = some (.int 12 t)
  c_MOST_SIZE : ∃ t, mg "MOST_SIZE" = some (.int 400 t)
  c_MOST_HEAP : ∃ t, mg "MOST_HEAP" = some (.int 1000000000000 t)
  c_MOST_PAIR : ∃ t, mg "MOST_PAIR" = some (.int 1000000000 t)
  c_MOST_TAKEN : ∃ t, mg "MOST_TAKEN" = some (.int 12 t)
theorem mkG {K : PySem.W.Frag} {h : Heap} {mg : Str → Option Value} (X : K.In h) (N : h.Ns mainGlobals mg) (c : SaysE fa fn ex K) : GF K mg := by
  obtain ⟨c1, c2⟩ := c.d

  exact ⟨⟨_, (c1.def_ 0 (d := d_is_integer) rfl).choose, (c1.def_ 0 (d := d_is_integer) rfl).choose_spec, He.glo_ok X N (c1.fact 0 (f := .glo "is_integer") rfl)⟩,
    ⟨_, (c1.def_ 1 (d := d_is_between) rfl).choose, (c1.def_ 1 (d := d_is_between) rfl).choose_spec, He.glo_ok X N (c1.fact 1 (f := .glo "is_between") rfl)⟩,
    ⟨_, (c1.def_ 2 (d := d_are_heaps) rfl).choose, (c1.def_ 2 (d := d_are_heaps) rfl).choose_spec, He.glo_ok X N (c1.fact 2 (f := .glo "are_heaps") rfl)⟩,
    ⟨_, (c1.def_ 3 (d := d_root_of) rfl).choose, (c1.def_ 3 (d := d_root_of) rfl).choose_spec, He.glo_ok X N (c1.fact 3 (f := .glo "root_of") rfl)⟩,
    ⟨_, (c1.def_ 4 (d := d_pair_by) rfl).choose, (c1.def_ 4 (d := d_pair_by) rfl).choose_spec, He.glo_ok X N (c1.fact 4 (f := .glo "pair_by") rfl)⟩,
    ⟨_, (c1.def_ 5 (d := d_wythoff) rfl).choose, (c1.def_ 5 (d := d_wythoff) rfl).choose_spec, He.glo_ok X N (c1.fact 5 (f := .glo "wythoff") rfl)⟩,
    ⟨_, (c1.def_ 6 (d := d_mate_of) rfl).choose, (c1.def_ 6 (d := d_mate_of) rfl).choose_spec, He.glo_ok X N (c1.fact 6 (f := .glo "mate_of") rfl)⟩,
    ⟨_, (c1.def_ 7 (d := d_check_two) rfl).choose, (c1.def_ 7 (d := d_check_two) rfl).choose_spec, He.glo_ok X N (c1.fact 7 (f := .glo "check_two") rfl)⟩,
    ⟨_, (c1.def_ 8 (d := d_is_pair) rfl).choose, (c1.def_ 8 (d := d_is_pair) rfl).choose_spec, He.glo_ok X N (c1.fact 8 (f := .glo "is_pair") rfl)⟩,
    ⟨_, (c1.def_ 9 (d := d_two_win) rfl).choose, (c1.def_ 9 (d := d_two_win) rfl).choose_spec, He.glo_ok X N (c1.fact 9 (f := .glo "two_win") rfl)⟩,
    ⟨_, (c1.def_ 10 (d := d_two_good) rfl).choose, (c1.def_ 10 (d := d_two_good) rfl).choose_spec, He.glo_ok X N (c1.fact 10 (f := .glo "two_good") rfl)⟩,
    ⟨_, (c1.def_ 11 (d := d_is_golden) rfl).choose, (c1.def_ 11 (d := d_is_golden) rfl).choose_spec, He.glo_ok X N (c1.fact 11 (f := .glo "is_golden") rfl)⟩,
    ⟨_, (c1.def_ 12 (d := d_is_euclid_won) rfl).choose, (c1.def_ 12 (d := d_is_euclid_won) rfl).choose_spec, He.glo_ok X N (c1.fact 12 (f := .glo "is_euclid_won") rfl)⟩,
    ⟨_, (c1.def_ 13 (d := d_euclid_wins) rfl).choose, (c1.def_ 13 (d := d_euclid_wins) rfl).choose_spec, He.glo_ok X N (c1.fact 13 (f := .glo "euclid_wins") rfl)⟩,
    ⟨_, (c1.def_ 14 (d := d_euclid_good) rfl).choose, (c1.def_ 14 (d := d_euclid_good) rfl).choose_spec, He.glo_ok X N (c1.fact 14 (f := .glo "euclid_good") rfl)⟩,
    ⟨_, (c1.def_ 15 (d := d_fibonacci) rfl).choose, (c1.def_ 15 (d := d_fibonacci) rfl).choose_spec, He.glo_ok X N (c1.fact 15 (f := .glo "fibonacci") rfl)⟩,
    ⟨_, (c1.def_ 16 (d := d_parts_of) rfl).choose, (c1.def_ 16 (d := d_parts_of) rfl).choose_spec, He.glo_ok X N (c1.fact 16 (f := .glo "parts_of") rfl)⟩,
    ⟨_, (c1.def_ 17 (d := d_parted) rfl).choose, (c1.def_ 17 (d := d_parted) rfl).choose_spec, He.glo_ok X N (c1.fact 17 (f := .glo "parted") rfl)⟩,
    ⟨_, (c1.def_ 18 (d := d_check_double) rfl).choose, (c1.def_ 18 (d := d_check_double) rfl).choose_spec, He.glo_ok X N (c1.fact 18 (f := .glo "check_double") rfl)⟩,
    ⟨_, (c1.def_ 19 (d := d_double_wins) rfl).choose, (c1.def_ 19 (d := d_double_wins) rfl).choose_spec, He.glo_ok X N (c1.fact 19 (f := .glo "double_wins") rfl)⟩,
    ⟨_, (c1.def_ 20 (d := d_double_take) rfl).choose, (c1.def_ 20 (d := d_double_take) rfl).choose_spec, He.glo_ok X N (c1.fact 20 (f := .glo "double_take") rfl)⟩,
    ⟨_, (c1.def_ 21 (d := d_check_several) rfl).choose, (c1.def_ 21 (d := d_check_several) rfl).choose_spec, He.glo_ok X N (c1.fact 21 (f := .glo "check_several") rfl)⟩,
    ⟨_, (c1.def_ 22 (d := d_comes_out) rfl).choose, (c1.def_ 22 (d := d_comes_out) rfl).choose_spec, He.glo_ok X N (c1.fact 22 (f := .glo "comes_out") rfl)⟩,
    ⟨_, (c1.def_ 23 (d := d_several_win) rfl).choose, (c1.def_ 23 (d := d_several_win) rfl).choose_spec, He.glo_ok X N (c1.fact 23 (f := .glo "several_win") rfl)⟩,
    ⟨_, (c1.def_ 24 (d := d_high_place) rfl).choose, (c1.def_ 24 (d := d_high_place) rfl).choose_spec, He.glo_ok X N (c1.fact 24 (f := .glo "high_place") rfl)⟩,
    ⟨_, (c1.def_ 25 (d := d_to_come_out) rfl).choose, (c1.def_ 25 (d := d_to_come_out) rfl).choose_spec, He.glo_ok X N (c1.fact 25 (f := .glo "to_come_out") rfl)⟩,
    ⟨_, (c1.def_ 26 (d := d_several_to) rfl).choose, (c1.def_ 26 (d := d_several_to) rfl).choose_spec, He.glo_ok X N (c1.fact 26 (f := .glo "several_to") rfl)⟩,
    ⟨_, (c1.def_ 27 (d := d_shows_several_to) rfl).choose, (c1.def_ 27 (d := d_shows_several_to) rfl).choose_spec, He.glo_ok X N (c1.fact 27 (f := .glo "shows_several_to") rfl)⟩,
    ⟨_, (c1.def_ 28 (d := d__law_pot) rfl).choose, (c1.def_ 28 (d := d__law_pot) rfl).choose_spec, He.glo_ok X N (c1.fact 28 (f := .glo "_law_pot") rfl)⟩,
    ⟨_, (c1.def_ 29 (d := d__law_take) rfl).choose, (c1.def_ 29 (d := d__law_take) rfl).choose_spec, He.glo_ok X N (c1.fact 29 (f := .glo "_law_take") rfl)⟩,
    ⟨_, (c1.def_ 30 (d := d__law_some) rfl).choose, (c1.def_ 30 (d := d__law_some) rfl).choose_spec, He.glo_ok X N (c1.fact 30 (f := .glo "_law_some") rfl)⟩,
    ⟨_, (c1.def_ 31 (d := d__law_places) rfl).choose, (c1.def_ 31 (d := d__law_places) rfl).choose_spec, He.glo_ok X N (c1.fact 31 (f := .glo "_law_places") rfl)⟩,
    ⟨_, (c1.def_ 32 (d := d__law_great) rfl).choose, (c1.def_ 32 (d := d__law_great) rfl).choose_spec, He.glo_ok X N (c1.fact 32 (f := .glo "_law_great") rfl)⟩,
    ⟨_, (c1.def_ 33 (d := d__law_are_golden_right) rfl).choose, (c1.def_ 33 (d := d__law_are_golden_right) rfl).choose_spec, He.glo_ok X N (c1.fact 33 (f := .glo "_law_are_golden_right") rfl)⟩,
    ⟨_, (c1.def_ 34 (d := d__law_are_euclids_right) rfl).choose, (c1.def_ 34 (d := d__law_are_euclids_right) rfl).choose_spec, He.glo_ok X N (c1.fact 34 (f := .glo "_law_are_euclids_right") rfl)⟩,
    ⟨_, (c1.def_ 35 (d := d__law_are_doubles_right) rfl).choose, (c1.def_ 35 (d := d__law_are_doubles_right) rfl).choose_spec, He.glo_ok X N (c1.fact 35 (f := .glo "_law_are_doubles_right") rfl)⟩,
    ⟨_, (c1.def_ 36 (d := d__law_rests) rfl).choose, (c1.def_ 36 (d := d__law_rests) rfl).choose_spec, He.glo_ok X N (c1.fact 36 (f := .glo "_law_rests") rfl)⟩,
    ⟨_, (c1.def_ 37 (d := d__law_are_several_right) rfl).choose, (c1.def_ 37 (d := d__law_are_several_right) rfl).choose_spec, He.glo_ok X N (c1.fact 37 (f := .glo "_law_are_several_right") rfl)⟩,
    ⟨_, (c1.def_ 38 (d := d__law_right) rfl).choose, (c1.def_ 38 (d := d__law_right) rfl).choose_spec, He.glo_ok X N (c1.fact 38 (f := .glo "_law_right") rfl)⟩,
    ⟨_, (c1.def_ 39 (d := d_law) rfl).choose, (c1.def_ 39 (d := d_law) rfl).choose_spec, He.glo_ok X N (c1.fact 39 (f := .glo "law") rfl)⟩,
    He.free_ok X N (c1.fact 40 (f := .free "isinstance") rfl),
    He.free_ok X N (c1.fact 41 (f := .free "int") rfl),
    He.free_ok X N (c1.fact 42 (f := .free "bool") rfl),
    He.free_ok X N (c1.fact 43 (f := .free "tuple") rfl),
    He.free_ok X N (c1.fact 44 (f := .free "len") rfl),
    He.free_ok X N (c1.fact 45 (f := .free "all") rfl),
    He.free_ok X N (c1.fact 46 (f := .free "range") rfl),
    He.free_ok X N (c1.fact 47 (f := .free "max") rfl),
    He.free_ok X N (c1.fact 48 (f := .free "min") rfl),
    He.free_ok X N (c1.fact 49 (f := .free "abs") rfl),
    He.free_ok X N (c1.fact 50 (f := .free "sorted") rfl),
    He.free_ok X N (c1.fact 51 (f := .free "set") rfl),
    He.free_ok X N (c1.fact 52 (f := .free "sum") rfl),
    He.free_ok X N (c1.fact 53 (f := .free "list") rfl),
    He.free_ok X N (c1.fact 54 (f := .free "zip") rfl),
    He.free_ok X N (c1.fact 55 (f := .free "enumerate") rfl),
    He.free_ok X N (c1.fact 56 (f := .free "any") rfl),
    He.free_ok X N (c1.fact 57 (f := .free "repr") rfl),
    He.int_ok X N (c1.fact 58 (f := .int "MOST_HEAPS" 12) rfl),
    He.int_ok X N (c1.fact 59 (f := .int "MOST_SIZE" 400) rfl),
    He.int_ok X N (c1.fact 60 (f := .int "MOST_HEAP" 1000000000000) rfl),
    He.int_ok X N (c1.fact 61 (f := .int "MOST_PAIR" 1000000000) rfl),
    He.int_ok X N (c1.fact 62 (f := .int "MOST_TAKEN" 12) rfl)⟩
end K22

set_option Elab.async false
set_option linter.all false
set_option maxRecDepth 100000
local macro_rules | `(tactic| walk_at "pl") => `(tactic| first | assumption | rfl | omega | exact PL.get_app | exact PL.get_appS | exact ⟨by omega, by omega⟩ | exact Or.inl ⟨by omega, by omega⟩ | exact Or.inr ⟨by omega, by omega⟩ | (show (0 : Int) < _; omega) | decide | (simp only [List.length_cons, List.length_nil]; omega) | (refine ⟨?_, ?_⟩ <;> first | assumption | omega))
local macro_rules | `(tactic| walk_at "pl end") => `(tactic| first | exact .inl hQ | exact rt_is hQ (by simp))
local macro_rules | `(tactic| walk_at "pl dead") => `(tactic| first | omega | (intros; simp_all; done) | (intros; simp_all; omega))
namespace K22
open PySem PySem.Spec PyProof.Rows L2 Evl PL
variable {K : PySem.W.Frag} {P₀ : Program} {w : World} {mg : Str → Option Value} {base : Heap}
abbrev N_is_integer : List Str := ["value"]
theorem sc_is_integer : FnScope N_is_integer ["value"] (defScope s_is_integer) := ⟨rfl, rfl, rfl, by decide +kernel, rfl, by decide +kernel, by decide +kernel⟩
set_option maxHeartbeats 4000000 in
theorem ok_is_integer (G : GF K mg) : Cl P₀ w K mg base 1 "is_integer" S_is_integer := by
  refine pfn G.d_is_integer sc_is_integer (fun _ _ _ _ _ _ us hl => match us, hl with | [_], _ => rfl) (fun qs c Q h => ?_) (fun f cdv A outer s H E hr => ?_)
  · obtain ⟨i, rfl, hQ⟩ := h; rfl
  have hu := hr.units
  refine ⟨_, (pss_one (ps_ret (pe_and (pe_callB (call_isi' (K := K) rfl) rfl G.b_isinstance boot_isinstance (pa_cons (pv 0) (pa_cons (pe_bltn (v := .ty "int") rfl G.b_int boot_int rfl) pa_nil))) (pe_one (pe_not (pe_callB (call_isi' (K := K) rfl) rfl G.b_isinstance boot_isinstance (pa_cons (pv 0) (pa_cons (pe_bltn (v := .ty "bool") rfl G.b_bool boot_bool rfl) pa_nil)))))))), fun qs c Q hS hb => ?_⟩
  obtain ⟨i, rfl, hQ⟩ := hS
  -- statement 1
  refine sw_ret (ew_and' (ew_isi (aw_cons (ew_var rfl (aw_cons (ew_ty (aw_nil ⟨_, "int", "int", true, rfl, (.int _), (by decide +kernel), ⟨rfl, rfl⟩⟩)))))) (fun hbx1 => (ew_notV (ew_isi (aw_cons (ew_var rfl (aw_cons (ew_ty (aw_nil ⟨_, "int", "bool", false, rfl, (.int _), (by decide +kernel), ⟨_, rfl, ⟨rfl, rfl⟩⟩⟩)))))))) ?_)
  first | exact .inl hQ | exact rt_is hQ (by simp) | exact rt_is hQ (by first | rfl | (congr 1 <;> simp; done))

abbrev N_is_between : List Str := ["value", "least", "most"]
theorem sc_is_between : FnScope N_is_between ["value", "least", "most"] (defScope s_is_between) := ⟨rfl, rfl, rfl, by decide +kernel, rfl, by decide +kernel, by decide +kernel⟩
set_option maxHeartbeats 4000000 in
theorem ok_is_between (G : GF K mg) (c_is_integer : Cl P₀ w K mg base 1 "is_integer" S_is_integer) : Cl P₀ w K mg base 2 "is_between" S_is_between := by
  refine pfn G.d_is_between sc_is_between (fun _ _ _ _ _ _ us hl => match us, hl with | [_, _, _], _ => rfl) (fun qs c Q h => ?_) (fun f cdv A outer s H E hr => ?_)
  · obtain ⟨v, l, m, rfl, hQ⟩ := h; rfl
  have hu := hr.units
  refine ⟨_, (pss_one (ps_ret (pe_and (pe_cl c_is_integer ⟨rfl, rfl, rfl, rfl, rfl⟩ hr (by omega) rfl (pa_cons (pv 0) pa_nil)) (pe_one (pe_chain op_le op_le (pv 1) (pv 0) (pv 2)))))), fun qs c Q hS hb => ?_⟩
  obtain ⟨v, l, m, rfl, hQ⟩ := hS
  -- statement 1
  refine sw_ret (ew_and' (ew_call (aw_cons (ew_var rfl (aw_nil ⟨_, rfl, ⟨rfl, rfl⟩⟩)))) (fun hbx1 => (ew_chain' (ew_var rfl ⟨_, rfl, (ew_var rfl ⟨_, _, rfl, fun hcx3 => (ew_var rfl ⟨rfl, rfl⟩), ⟨rfl, rfl⟩⟩)⟩))) ?_)
  first | exact .inl hQ | exact rt_is hQ (by simp) | exact rt_is hQ (by first | rfl | (congr 1 <;> simp; done))

theorem ints_get {hs : List Int} {i : Nat} {p : P} (h : (hs.map P.int)[i]? = some p) : ∃ x, hs[i]? = some x ∧ p = .int x := by
  rw [List.getElem?_map] at h
  cases e : hs[i]? with
  | none => rw [e] at h; cases h
  | some x => rw [e] at h; cases h; exact ⟨x, rfl, rfl⟩

abbrev N_are_heaps : List Str := ["value", "size"]
theorem sc_are_heaps : FnScope N_are_heaps ["value"] (defScope s_are_heaps) := ⟨rfl, rfl, rfl, by decide +kernel, rfl, by decide +kernel, by decide +kernel⟩
set_option maxHeartbeats 4000000 in
theorem ok_are_heaps (G : GF K mg) (c_is_between : Cl P₀ w K mg base 2 "is_between" S_is_between) : Cl P₀ w K mg base 3 "are_heaps" S_are_heaps := by
  refine pfn G.d_are_heaps sc_are_heaps (fun _ _ _ _ _ _ us hl => match us, hl with | [_], _ => rfl) (fun qs c Q h => ?_) (fun f cdv A outer s H E hr => ?_)
  · obtain ⟨hs, rfl, hl, hQ⟩ := h; rfl
  have hu := hr.units
  refine ⟨_, (pss_cons (ps_if (PW.pt (pw_or (pt_not (pt_val (pe_callB (call_isi' (K := K) rfl) rfl G.b_isinstance boot_isinstance (pa_cons (pv 0) (pa_cons (pe_bltn (v := .ty "tuple") rfl G.b_tuple boot_tuple rfl) pa_nil))))) (pw_or1 (pt_cmpR op_gt (pe_callB (call_len_seq' (K := K) rfl) rfl G.b_len boot_len (pa_cons (pv 0) pa_nil)) (pe_gint G.c_MOST_HEAPS rfl) (nomark _))))) (pss_one (ps_ret pe_bl)) pss_nil) (pss_one (ps_ret (pe_callB (cr_all' (K := K) rfl rfl) rfl G.b_all boot_all (pa_cons (pe_lc (own := [("size", 1)]) rfl sc_are_heaps.nd (pi_tup' (K := K) rfl (pv 0)) (blkOk_by (N := N_are_heaps) (sc := defScope s_are_heaps) (by decide +kernel)) (fun _ _ _ _ _ => (pg_name (i := 1) sc_are_heaps.nd rfl (by first | exact Or.inl rfl | exact Or.inr rfl))) (fun _ _ _ _ _ => pts_nil) (fun _ _ _ _ _ => (pe_cl c_is_between ⟨rfl, rfl, rfl, rfl, rfl⟩ hr (by omega) rfl (pa_cons (pv 1) (pa_cons pe_int (pa_cons (pe_gint G.c_MOST_SIZE rfl) pa_nil)))))) pa_nil))))), fun qs c Q hS hb => ?_⟩
  obtain ⟨hs, rfl, hl, hQ⟩ := hS
  -- statement 1
  refine sw_seq (sw_if (tw_or' (tw_not (tw_B (ew_isi (aw_cons (ew_var rfl (aw_cons (ew_ty (aw_nil ⟨_, "tuple", "tuple", true, rfl, (.tup _), (by decide +kernel), ⟨_, rfl, ⟨rfl, rfl⟩⟩⟩)))))))) (fun hbx2 => (tw_test (ew_opB (ew_len (ew_var rfl ⟨_, (.t _), ⟨_, rfl, (ew_int ⟨_, rfl, ⟨_, rfl, ⟨rfl, rfl⟩⟩⟩)⟩⟩))))) ⟨fun hx1 => ?_, fun hx1 => ?_⟩))
  · simp at hx1
    -- statement 2
    refine sw_ret (ew_bl ?_)
    refine rt_is hQ ?_
    unfold heapsB
    rw [decide_eq_false (by omega), Bool.false_and]
  · simp at hx1
    refine sw_next ?_
    -- statement 3
    refine sw_ret (ew_all (ew_lcM P.int hs (fun x => P.bl (decide (0 ≤ x) && decide (x ≤ 400))) (gc_name (by decide)) (iw_tup (ew_var rfl ⟨_, rfl, ⟨rfl, rfl⟩⟩)) (by omega) (fun x hx => gw_name ⟨rfl, (tw_yes ⟨rfl, rfl⟩), fun hf => (ew_call (aw_cons (ew_var rfl (aw_cons (ew_int (aw_cons (ew_int (aw_nil ⟨_, _, _, rfl, ⟨rfl, rfl⟩⟩))))))))⟩) ⟨(hs.map fun x => decide (0 ≤ x) && decide (x ≤ 400)), (LstOf.of (.lst _) (by rw [List.map_map]; rfl)), ?_⟩))
    refine rt_is hQ ?_
    unfold heapsB
    rw [decide_eq_true (by omega), Bool.true_and, List.all_map]
    rfl

abbrev N_is_golden : List Str := ["high", "low"]
theorem sc_is_golden : FnScope N_is_golden ["high", "low"] (defScope s_is_golden) := ⟨rfl, rfl, rfl, by decide +kernel, rfl, by decide +kernel, by decide +kernel⟩
set_option maxHeartbeats 4000000 in
theorem ok_is_golden (G : GF K mg) : Cl P₀ w K mg base 1 "is_golden" S_is_golden := by
  refine pfn G.d_is_golden sc_is_golden (fun _ _ _ _ _ _ us hl => match us, hl with | [_, _], _ => rfl) (fun qs c Q h => ?_) (fun f cdv A outer s H E hr => ?_)
  · obtain ⟨a, b, rfl, ⟨h1, h2, h3, h4⟩, hQ⟩ := h; rfl
  have hu := hr.units
  refine ⟨_, (pss_one (ps_ret (pe_cmpR op_gt (pe_op op_sub (pe_op op_sub (pe_op op_mul (pv 0) (pv 0)) (pe_op op_mul (pv 0) (pv 1))) (pe_op op_mul (pv 1) (pv 1))) pe_int (nomark _)))), fun qs c Q hS hb => ?_⟩
  obtain ⟨a, b, rfl, ⟨h1, h2, h3, h4⟩, hQ⟩ := hS
  -- statement 1
  refine sw_ret (ew_opB (ew_opI (ew_opI (ew_opC (ew_var rfl ⟨_, rfl, (ew_var rfl ⟨_, rfl, (by walk_at "pl"), ⟨_, rfl, (ew_opC (ew_var rfl ⟨_, rfl, (ew_var rfl ⟨_, rfl, (by walk_at "pl"), ⟨_, rfl, ⟨_, rfl, (ew_opC (ew_var rfl ⟨_, rfl, (ew_var rfl ⟨_, rfl, (by walk_at "pl"), ⟨_, rfl, ⟨_, rfl, (ew_int ⟨_, rfl, ?_⟩)⟩⟩⟩)⟩))⟩⟩⟩)⟩))⟩⟩)⟩)))))
  first | exact .inl hQ | exact rt_is hQ (by simp) | exact rt_is hQ (by first | rfl | (congr 1 <;> simp; done))

abbrev N_is_euclid_won : List Str := ["one", "other", "low", "high"]
theorem sc_is_euclid_won : FnScope N_is_euclid_won ["one", "other"] (defScope s_is_euclid_won) := ⟨rfl, rfl, rfl, by decide +kernel, rfl, by decide +kernel, by decide +kernel⟩
set_option maxHeartbeats 4000000 in
theorem ok_is_euclid_won (G : GF K mg) (c_is_golden : Cl P₀ w K mg base 1 "is_golden" S_is_golden) : Cl P₀ w K mg base 2 "is_euclid_won" S_is_euclid_won := by
  refine pfn G.d_is_euclid_won sc_is_euclid_won (fun _ _ _ _ _ _ us hl => match us, hl with | [_, _], _ => rfl) (fun qs c Q h => ?_) (fun f cdv A outer s H E hr => ?_)
  · obtain ⟨a, b, rfl, ⟨h1, h2, h3, h4⟩, hQ⟩ := h; rfl
  have hu := hr.units
  refine ⟨_, (pss_cons (ps_par (i := 2) (j := 3) rfl sc_is_euclid_won.nd rfl rfl (by decide) rfl rfl (pa_cons (pe_callB (call_min2 rfl) rfl G.b_min boot_min (pa_cons (pv 0) (pa_cons (pv 1) pa_nil))) (pa_cons (pe_callB (call_max2 rfl) rfl G.b_max boot_max (pa_cons (pv 0) (pa_cons (pv 1) pa_nil))) pa_nil)) rfl) (pss_one (ps_ret (pe_and (pe_cmpR op_gt (pv 2) pe_int (nomark _)) (pe_one (pe_or (pe_cmpR op_eq (pv 2) (pv 3) (nomark _)) (pe_one (pe_cl c_is_golden ⟨rfl, rfl, rfl, rfl, rfl⟩ hr (by omega) rfl (pa_cons (pv 3) (pa_cons (pv 2) pa_nil)))))))))), fun qs c Q hS hb => ?_⟩
  obtain ⟨a, b, rfl, ⟨h1, h2, h3, h4⟩, hQ⟩ := hS
  -- statement 1
  refine sw_seq (sw_par (aw_cons (ew_min2 (aw_cons (ew_var rfl (aw_cons (ew_var rfl (aw_nil ⟨_, _, rfl, (aw_cons (ew_max2 (aw_cons (ew_var rfl (aw_cons (ew_var rfl (aw_nil ⟨_, _, rfl, (aw_nil ⟨_, _, rfl, ?_⟩)⟩)))))))⟩))))))))
  -- statement 2
  refine sw_ret (ew_and' (ew_opB (ew_var rfl ⟨_, rfl, (ew_int ⟨_, rfl, ⟨rfl, rfl⟩⟩)⟩)) (fun hbx1 => (ew_or' (ew_eqI (ew_var rfl ⟨_, rfl, (ew_var rfl ⟨_, rfl, ⟨rfl, rfl⟩⟩)⟩)) (fun hbx2 => (ew_call (aw_cons (ew_var rfl (aw_cons (ew_var rfl (aw_nil ⟨_, _, rfl, ⟨by split <;> omega, by split <;> omega, by split <;> omega, by split <;> omega⟩, ⟨rfl, rfl⟩⟩))))))) ⟨rfl, rfl⟩)) ?_)
  refine rt_is hQ ?_
  unfold wonI Gold.won Gold.lo Gold.hi
  rfl
end K22

set_option Elab.async false
set_option linter.all false
set_option maxRecDepth 100000
local macro_rules | `(tactic| walk_at "pl") => `(tactic| first | assumption | rfl | omega | exact PL.get_app | exact PL.get_appS | exact ⟨by omega, by omega⟩ | exact Or.inl ⟨by omega, by omega⟩ | exact Or.inr ⟨by omega, by omega⟩ | (show (0 : Int) < _; omega) | decide | (simp only [List.length_cons, List.length_nil]; omega) | (refine ⟨?_, ?_⟩ <;> first | assumption | omega))
local macro_rules | `(tactic| walk_at "pl end") => `(tactic| first | exact .inl hQ | exact rt_is hQ (by simp))
local macro_rules | `(tactic| walk_at "pl dead") => `(tactic| first | omega | (intros; simp_all; done) | (intros; simp_all; omega))
namespace K22
open PySem PySem.Spec PyProof.Rows L2 Evl PL
variable {K : PySem.W.Frag} {P₀ : Program} {w : World} {mg : Str → Option Value} {base : Heap}
theorem sq_pos {h : Int} (h1 : 1 ≤ h) : h ≤ h * h := by
  have := Int.mul_le_mul_of_nonneg_left h1 (show 0 ≤ h by omega)
  omega
theorem root_up {n h : Int} (h1 : 1 ≤ h) (hn : n < 2 ^ 120) (hh : h * h ≤ n) : h < 2 ^ 61 := by
  rcases Int.lt_or_le h (2 ^ 61) with c | c
  · exact c
  · have := Int.mul_le_mul c c (by decide) (show 0 ≤ h by omega)
    omega

abbrev N_root_of : List Str := ["number", "high", "low", "half"]
theorem sc_root_of : FnScope N_root_of ["number"] (defScope s_root_of) := ⟨rfl, rfl, rfl, by decide +kernel, rfl, by decide +kernel, by decide +kernel⟩
set_option maxHeartbeats 4000000 in
theorem ok_root_of (G : GF K mg) : Cl P₀ w K mg base 1 "root_of" S_root_of := by
  refine pfn G.d_root_of sc_root_of (fun _ _ _ _ _ _ us hl => match us, hl with | [_], _ => rfl) (fun qs c Q h => ?_) (fun f cdv A outer s H E hr => ?_)
  · obtain ⟨n, rfl, ⟨hn0, hn1⟩, hQ⟩ := h; rfl
  have hu := hr.units
  refine ⟨_, (pss_cons (ps_set (i := 1) sc_root_of.nd rfl (Or.inl rfl) pe_int) (pss_cons (ps_while PassesOwn.never (pt_cmpR op_le (pe_op op_mul (pv 1) (pv 1)) (pv 0) (nomark _)) (pss_one (ps_set (i := 1) sc_root_of.nd rfl (Or.inl rfl) (pe_op op_mul pe_int (pv 1))))) (pss_cons (ps_set (i := 2) sc_root_of.nd rfl (Or.inl rfl) pe_int) (pss_cons (ps_while PassesOwn.never (pt_cmpR op_gt (pe_op op_sub (pv 1) (pv 2)) pe_int (nomark _)) (pss_cons (ps_set (i := 3) sc_root_of.nd rfl (Or.inl rfl) (pe_op op_fdiv (pe_op op_add (pv 2) (pv 1)) pe_int)) (pss_one (ps_asg (pe_ifExp (pt_cmpR op_le (pe_op op_mul (pv 3) (pv 3)) (pv 0) (nomark _)) (pe_tup (pa_cons (pv 3) (pa_cons (pv 1) pa_nil))) (pe_tup (pa_cons (pv 2) (pa_cons (pv 3) pa_nil)))) (pg_tup' (K := K) rfl rfl (pgs_cons (pg_name (i := 2) sc_root_of.nd rfl (Or.inl rfl)) (pgs_cons (pg_name (i := 1) sc_root_of.nd rfl (Or.inl rfl)) pgs_nil))))))) (pss_one (ps_ret (pv 2))))))), fun qs c Q hS hb => ?_⟩
  obtain ⟨n, rfl, ⟨hn0, hn1⟩, hQ⟩ := hS
  -- statement 1
  refine sw_seq (sw_set (ew_int ?_))
  -- statement 2
  refine sw_seq (sw_while (fun (μ : Nat) ρ c' => c = c' ∧ ∃ hg : Int, ρ = [some (.int n), some (.int hg), none, none] ∧ 1 ≤ hg ∧ hg < 2 ^ 62 ∧ μ = (n + 1 - hg).toNat) n.toNat ⟨rfl, 1, rfl, by decide, by decide, by omega⟩ (fun μ ρ' c' hW => ?_))
  obtain ⟨rfl, hg, rfl, h1, h2, hμ⟩ := hW
  refine (tw_test (ew_opB (ew_opC (ew_var rfl ⟨_, rfl, (ew_var rfl ⟨_, rfl, (Or.inl ⟨by omega, by omega⟩), ⟨_, rfl, (ew_var rfl ⟨_, rfl, ⟨_, rfl, ⟨fun hx1 => ⟨fun ρ2 c2 => ∃ μ', μ' < μ ∧ ((fun (μ : Nat) ρ c' => c = c' ∧ ∃ hg : Int, ρ = [some (.int n), some (.int hg), none, none] ∧ 1 ≤ hg ∧ hg < 2 ^ 62 ∧ μ = (n + 1 - hg).toNat)) μ' ρ2 c2, fun _ _ h => h, ?_⟩, fun hx1 => ?_⟩⟩⟩)⟩⟩)⟩))))
  · simp only [decide_eq_true_eq] at hx1
    have hup := root_up h1 hn1 hx1
    have hsq := sq_pos h1
    -- statement 3
    refine sw_set (ew_opC (ew_int ⟨_, rfl, (ew_var rfl ⟨_, rfl, (Or.inl ⟨by decide, by decide⟩), ?_⟩)⟩))
    exact ⟨_, by have := hμ; omega, rfl, _, rfl, by omega, by omega, rfl⟩
  · simp only [decide_eq_false_iff_not, Int.not_le] at hx1
    -- statement 4
    refine sw_seq (sw_set (ew_int ?_))
    -- statement 5
    refine sw_seq (sw_while (fun (μ : Nat) ρ c' => c = c' ∧ ∃ (hg lo : Int) (y : Option P), ρ = [some (.int n), some (.int hg), some (.int lo), y] ∧ 0 ≤ lo ∧ lo < hg ∧ hg < 2 ^ 62 ∧ lo * lo ≤ n ∧ n < hg * hg ∧ μ = (hg - lo).toNat) (hg - 0).toNat ⟨rfl, _, _, none, rfl, by decide, by omega, h2, by omega, by omega, rfl⟩ (fun μ ρ' c' hW => ?_))
    obtain ⟨rfl, hg, lo, y, rfl, g1, g2, g3, g4, g5, hμ⟩ := hW
    refine (tw_test (ew_opB (ew_opI (ew_var rfl ⟨_, rfl, (ew_var rfl ⟨_, rfl, ⟨_, rfl, (ew_int ⟨_, rfl, ⟨_, rfl, ⟨fun hx2 => ⟨fun ρ2 c2 => ∃ μ', μ' < μ ∧ ((fun (μ : Nat) ρ c' => c = c' ∧ ∃ (hg lo : Int) (y : Option P), ρ = [some (.int n), some (.int hg), some (.int lo), y] ∧ 0 ≤ lo ∧ lo < hg ∧ hg < 2 ^ 62 ∧ lo * lo ≤ n ∧ n < hg * hg ∧ μ = (hg - lo).toNat)) μ' ρ2 c2, fun _ _ h => h, ?_⟩, fun hx2 => ?_⟩⟩⟩)⟩⟩)⟩))))
    · simp only [gt_iff_lt, decide_eq_true_eq] at hx2
      have hhalf : lo < (lo + hg) / 2 ∧ (lo + hg) / 2 < hg := by omega
      -- statement 6
      refine sw_seq (sw_set (ew_opC (ew_opI (ew_var rfl ⟨_, rfl, (ew_var rfl ⟨_, rfl, ⟨_, rfl, (ew_int ⟨_, rfl, ⟨by decide, by decide⟩, ?_⟩)⟩⟩)⟩))))
      -- statement 7
      refine sw_asg (ew_ifTI2 (tw_test (ew_opB (ew_opC (ew_var rfl ⟨_, rfl, (ew_var rfl ⟨_, rfl, (Or.inl ⟨by omega, by omega⟩), ⟨_, rfl, (ew_var rfl ⟨_, rfl, ⟨_, rfl, ⟨rfl, rfl⟩⟩⟩)⟩⟩)⟩)))) (fun hix3 => (ew_tup (aw_cons (ew_var rfl (aw_cons (ew_var rfl (aw_nil ⟨(by show 2 ≤ 100000; decide), ⟨rfl, rfl⟩⟩))))))) (fun hix3 => (ew_tup (aw_cons (ew_var rfl (aw_cons (ew_var rfl (aw_nil ⟨(by show 2 ≤ 100000; decide), ⟨rfl, rfl⟩⟩))))))) (gw_tup rfl (gws_cons (gw_name (gws_cons (gw_name (gws_nil ?_)))))))
      refine ⟨((if decide ((lo + hg) / 2 * ((lo + hg) / 2) ≤ n) = true then hg else (lo + hg) / 2) - (if decide ((lo + hg) / 2 * ((lo + hg) / 2) ≤ n) = true then (lo + hg) / 2 else lo)).toNat, ?_, rfl, _, _, _, rfl, ?_⟩
      rotate_left
      · by_cases hle : (lo + hg) / 2 * ((lo + hg) / 2) ≤ n
        · rw [if_pos (decide_eq_true hle), if_pos (decide_eq_true hle)]
          exact ⟨by omega, by omega, by omega, hle, g5, rfl⟩
        · rw [if_neg (by rw [decide_eq_true_eq]; exact hle), if_neg (by rw [decide_eq_true_eq]; exact hle)]
          exact ⟨by omega, by omega, by omega, g4, by omega, rfl⟩
      · by_cases hle : (lo + hg) / 2 * ((lo + hg) / 2) ≤ n
        · rw [if_pos (decide_eq_true hle), if_pos (decide_eq_true hle)]; omega
        · rw [if_neg (by rw [decide_eq_true_eq]; exact hle), if_neg (by rw [decide_eq_true_eq]; exact hle)]; omega
    · simp only [gt_iff_lt, decide_eq_false_iff_not, Int.not_lt] at hx2
      -- statement 8
      refine sw_ret (ew_var rfl ?_)
      have e : hg = lo + 1 := by omega
      subst e
      rw [← Gold.rt_uniq g1 g4 g5] at hQ
      exact .inl hQ

theorem A13 {n : Int} (h0 : 0 ≤ n) (h1 : n ≤ 10 ^ 13) : 0 ≤ 5 * n * n ∧ 5 * n * n < 2 ^ 120 := by
  have a := Int.mul_nonneg (show 0 ≤ 5 * n by omega) h0
  have b := Int.mul_le_mul (show 5 * n ≤ 5 * 10 ^ 13 by omega) h1 h0 (by decide)
  exact ⟨a, by omega⟩

abbrev N_pair_by : List Str := ["number", "low"]
theorem sc_pair_by : FnScope N_pair_by ["number"] (defScope s_pair_by) := ⟨rfl, rfl, rfl, by decide +kernel, rfl, by decide +kernel, by decide +kernel⟩
set_option maxHeartbeats 4000000 in
theorem ok_pair_by (G : GF K mg) (c_root_of : Cl P₀ w K mg base 1 "root_of" S_root_of) : Cl P₀ w K mg base 2 "pair_by" S_pair_by := by
  refine pfn G.d_pair_by sc_pair_by (fun _ _ _ _ _ _ us hl => match us, hl with | [_], _ => rfl) (fun qs c Q h => ?_) (fun f cdv A outer s H E hr => ?_)
  · obtain ⟨n, rfl, ⟨hn0, hn1⟩, hQ⟩ := h; rfl
  have hu := hr.units
  refine ⟨_, (pss_cons (ps_set (i := 1) sc_pair_by.nd rfl (Or.inl rfl) (pe_op op_fdiv (pe_op op_add (pv 0) (pe_cl c_root_of ⟨rfl, rfl, rfl, rfl, rfl⟩ hr (by omega) rfl (pa_cons (pe_op op_mul (pe_op op_mul pe_int (pv 0)) (pv 0)) pa_nil))) pe_int)) (pss_one (ps_ret (pe_tup (pa_cons (pv 1) (pa_cons (pe_op op_add (pv 1) (pv 0)) pa_nil)))))), fun qs c Q hS hb => ?_⟩
  obtain ⟨n, rfl, ⟨hn0, hn1⟩, hQ⟩ := hS
  -- statement 1
  refine sw_seq (sw_set (ew_opC (ew_opI (ew_var rfl ⟨_, rfl, (ew_call (aw_cons (ew_opC (ew_opC (ew_int ⟨_, rfl, (ew_var rfl ⟨_, rfl, (Or.inl ⟨by decide, by decide⟩), ⟨_, rfl, (ew_var rfl ⟨_, rfl, (Or.inr ⟨by omega, by omega⟩), (aw_nil ⟨_, rfl, (A13 hn0 hn1), ⟨_, rfl, ⟨_, rfl, (ew_int ⟨_, rfl, ⟨by decide, by decide⟩, ?_⟩)⟩⟩⟩)⟩)⟩⟩)⟩)))))⟩))))
  -- statement 2
  refine sw_ret (ew_tup (aw_cons (ew_var rfl (aw_cons (ew_opI (ew_var rfl ⟨_, rfl, (ew_var rfl ⟨_, rfl, (aw_nil ⟨(by show 2 ≤ 100000; decide), ?_⟩)⟩)⟩))))))
  exact .inl hQ

abbrev N_wythoff : List Str := ["number"]
theorem sc_wythoff : FnScope N_wythoff ["number"] (defScope s_wythoff) := ⟨rfl, rfl, rfl, by decide +kernel, rfl, by decide +kernel, by decide +kernel⟩
set_option maxHeartbeats 4000000 in
theorem ok_wythoff (G : GF K mg) (c_is_between : Cl P₀ w K mg base 2 "is_between" S_is_between) (c_pair_by : Cl P₀ w K mg base 2 "pair_by" S_pair_by) : Cl P₀ w K mg base 3 "wythoff" S_wythoff := by
  refine pfn G.d_wythoff sc_wythoff (fun _ _ _ _ _ _ us hl => match us, hl with | [_], _ => rfl) (fun qs c Q h => ?_) (fun f cdv A outer s H E hr => ?_)
  · obtain ⟨n, rfl, ⟨hn0, hn1⟩, hQ⟩ := h; rfl
  have hu := hr.units
  refine ⟨_, (pss_cons (ps_if (pt_not (pt_val (pe_cl c_is_between ⟨rfl, rfl, rfl, rfl, rfl⟩ hr (by omega) rfl (pa_cons (pv 0) (pa_cons pe_int (pa_cons (pe_gint G.c_MOST_PAIR rfl) pa_nil)))))) (pss_one ps_dead) pss_nil) (pss_one (ps_ret (pe_cl c_pair_by ⟨rfl, rfl, rfl, rfl, rfl⟩ hr (by omega) rfl (pa_cons (pv 0) pa_nil))))), fun qs c Q hS hb => ?_⟩
  obtain ⟨n, rfl, ⟨hn0, hn1⟩, hQ⟩ := hS
  -- statement 1
  refine sw_seq (sw_if (tw_not (tw_B (ew_call (aw_cons (ew_var rfl (aw_cons (ew_int (aw_cons (ew_int (aw_nil ⟨_, _, _, rfl, ⟨_, rfl, ⟨fun hx1 => ?_, fun hx1 => ?_⟩⟩⟩)))))))))))
  · try simp only [decide_eq_true_eq, decide_eq_false_iff_not, Bool.or_eq_true, Bool.and_eq_true, Bool.or_eq_false_iff, Bool.and_eq_false_iff, Bool.not_eq_true', Bool.not_eq_false', Bool.not_true, Bool.not_false, Int.not_lt, Int.not_le] at hx1
    -- statement 2
    exact False.elim (by first | omega | (simp_all; done) | (simp_all; omega))
  · try simp only [decide_eq_true_eq, decide_eq_false_iff_not, Bool.or_eq_true, Bool.and_eq_true, Bool.or_eq_false_iff, Bool.and_eq_false_iff, Bool.not_eq_true', Bool.not_eq_false', Bool.not_true, Bool.not_false, Int.not_lt, Int.not_le] at hx1
    refine sw_next ?_
    -- statement 3
    refine sw_ret (ew_call (aw_cons (ew_var rfl (aw_nil ⟨_, rfl, (by walk_at "pl"), ?_⟩))))
    first | exact .inl hQ | exact rt_is hQ (by simp) | exact rt_is hQ (by first | rfl | (congr 1 <;> simp; done))

abbrev N_check_two : List Str := ["one", "other", "least"]
theorem sc_check_two : FnScope N_check_two ["one", "other", "least"] (defScope s_check_two) := ⟨rfl, rfl, rfl, by decide +kernel, rfl, by decide +kernel, by decide +kernel⟩
set_option maxHeartbeats 4000000 in
theorem ok_check_two (G : GF K mg) (c_is_between : Cl P₀ w K mg base 2 "is_between" S_is_between) : Cl P₀ w K mg base 3 "check_two" S_check_two := by
  refine pfn G.d_check_two sc_check_two (fun _ _ _ _ _ _ us hl => match us, hl with | [_, _, _], _ => rfl) (fun qs c Q h => ?_) (fun f cdv A outer s H E hr => ?_)
  · obtain ⟨a, b, l, rfl, ⟨h1, h2, h3, h4⟩, hQ⟩ := h; rfl
  have hu := hr.units
  refine ⟨_, (pss_one (ps_if (PW.pt (pw_or (pt_not (pt_val (pe_cl c_is_between ⟨rfl, rfl, rfl, rfl, rfl⟩ hr (by omega) rfl (pa_cons (pv 0) (pa_cons (pv 2) (pa_cons (pe_gint G.c_MOST_HEAP rfl) pa_nil)))))) (pw_or1 (pt_not (pt_val (pe_cl c_is_between ⟨rfl, rfl, rfl, rfl, rfl⟩ hr (by omega) rfl (pa_cons (pv 1) (pa_cons (pv 2) (pa_cons (pe_gint G.c_MOST_HEAP rfl) pa_nil))))))))) (pss_one ps_dead) pss_nil)), fun qs c Q hS hb => ?_⟩
  obtain ⟨a, b, l, rfl, ⟨h1, h2, h3, h4⟩, hQ⟩ := hS
  -- statement 1
  refine sw_if (tw_or' (tw_not (tw_B (ew_call (aw_cons (ew_var rfl (aw_cons (ew_var rfl (aw_cons (ew_int (aw_nil ⟨_, _, _, rfl, ⟨_, rfl, ⟨rfl, rfl⟩⟩⟩)))))))))) (fun hbx2 => (tw_not (tw_B (ew_call (aw_cons (ew_var rfl (aw_cons (ew_var rfl (aw_cons (ew_int (aw_nil ⟨_, _, _, rfl, ⟨_, rfl, ⟨rfl, rfl⟩⟩⟩))))))))))) ⟨fun hx1 => ?_, fun hx1 => ?_⟩)
  · try simp only [decide_eq_true_eq, decide_eq_false_iff_not, Bool.or_eq_true, Bool.and_eq_true, Bool.or_eq_false_iff, Bool.and_eq_false_iff, Bool.not_eq_true', Bool.not_eq_false', Bool.not_true, Bool.not_false, Int.not_lt, Int.not_le] at hx1
    -- statement 2
    exact False.elim (by first | omega | (simp_all; done) | (simp_all; omega))
  · try simp only [decide_eq_true_eq, decide_eq_false_iff_not, Bool.or_eq_true, Bool.and_eq_true, Bool.or_eq_false_iff, Bool.and_eq_false_iff, Bool.not_eq_true', Bool.not_eq_false', Bool.not_true, Bool.not_false, Int.not_lt, Int.not_le] at hx1
    refine sw_next ?_
    first | exact .inl hQ | exact rt_is hQ (by simp) | exact rt_is hQ (by first | rfl | (congr 1 <;> simp; done))
end K22

set_option Elab.async false
set_option linter.all false
set_option maxRecDepth 100000
local macro_rules | `(tactic| walk_at "pl") => `(tactic| first | assumption | rfl | omega | exact PL.get_app | exact PL.get_appS | exact ⟨by omega, by omega⟩ | exact Or.inl ⟨by omega, by omega⟩ | exact Or.inr ⟨by omega, by omega⟩ | (show (0 : Int) < _; omega) | decide | (simp only [List.length_cons, List.length_nil]; omega) | (refine ⟨?_, ?_⟩ <;> first | assumption | omega))
local macro_rules | `(tactic| walk_at "pl end") => `(tactic| first | exact .inl hQ | exact rt_is hQ (by simp))
local macro_rules | `(tactic| walk_at "pl dead") => `(tactic| first | omega | (intros; simp_all; done) | (intros; simp_all; omega))
namespace K22
open PySem PySem.Spec PyProof.Rows L2 Evl PL
variable {K : PySem.W.Frag} {P₀ : Program} {w : World} {mg : Str → Option Value} {base : Heap}
theorem near_bd {s : Int} (h : 0 ≤ s) : 0 ≤ Gold.near s ∧ Gold.near s ≤ s := by
  rw [Gold.near_eq h]
  have := Gold.A_spec h
  omega
theorem filter_one {l : List Int} {f : Int → Bool} {x0 : Int} (hx : x0 ∈ l) (hf : f x0 = true) (hu : ∀ x ∈ l, f x = true → x = x0) : atI ((l.filter f).map P.int) 0 = some (.int x0) := by
  cases e : l.filter f with
  | nil =>
    have : x0 ∈ l.filter f := List.mem_filter.mpr ⟨hx, hf⟩
    rw [e] at this; cases this
  | cons y r =>
    have hy : y ∈ l.filter f := by rw [e]; simp
    rw [List.mem_filter] at hy
    rw [hu y hy.1 hy.2]
    rw [List.map_cons]
    exact atI_ints (ns := x0 :: r) (i := 0) (by decide) (by simp only [List.length_cons]; omega)
theorem mem_rangeI {lo : Int} {n : Nat} {x : Int} : x ∈ rangeI lo n ↔ lo ≤ x ∧ x < lo + n := by
  unfold rangeI
  rw [List.mem_map]
  constructor
  · rintro ⟨i, hi, rfl⟩
    have := List.mem_range.mp hi
    omega
  · intro h
    exact ⟨(x - lo).toNat, List.mem_range.mpr (by omega), by omega⟩
theorem far_first {s lo hi : Int} (h0 : 0 ≤ s) (h1 : Gold.A (Gold.near s) ≠ s) (h2 : Gold.A (Gold.near s + 1) ≠ s) (hl : 0 ≤ lo ∧ lo ≤ s - Gold.near s) (hh : s - Gold.near s < hi) :
    atI (((rangeI lo (hi - lo).toNat).filter fun x => decide (Gold.A x + x = s)).map P.int) 0 = some (.int (s - Gold.near s)) ∧ Gold.A (s - Gold.near s) = Gold.near s := by
  have sp : 0 < s := by
    rcases Int.lt_or_eq_of_le h0 with c | c
    · exact c
    · exfalso; apply h1; rw [← c]; decide
  rcases Gold.mate sp with c | ⟨c, d⟩
  · exact absurd c h2
  · refine ⟨filter_one (mem_rangeI.mpr (by omega)) (decide_eq_true (by rw [c]; omega)) fun x hx hf => ?_, c⟩
    have hx := mem_rangeI.mp hx
    have hf := of_decide_eq_true hf
    rcases Int.lt_trichotomy x (s - Gold.near s) with z | z | z
    · have := Gold.A_mono (by omega) z; omega
    · exact z
    · have := Gold.A_mono (by omega) z; omega

abbrev N_mate_of : List Str := ["size", "near", "number", "far"]
theorem sc_mate_of : FnScope N_mate_of ["size"] (defScope s_mate_of) := ⟨rfl, rfl, rfl, by decide +kernel, rfl, by decide +kernel, by decide +kernel⟩
set_option maxHeartbeats 4000000 in
theorem ok_mate_of (G : GF K mg) (c_root_of : Cl P₀ w K mg base 1 "root_of" S_root_of) (c_pair_by : Cl P₀ w K mg base 2 "pair_by" S_pair_by) : Cl P₀ w K mg base 3 "mate_of" S_mate_of := by
  refine pfn G.d_mate_of sc_mate_of (fun _ _ _ _ _ _ us hl => match us, hl with | [_], _ => rfl) (fun qs c Q h => ?_) (fun f cdv A outer s H E hr => ?_)
  · obtain ⟨n, rfl, ⟨hn0, hn1⟩, hQ⟩ := h; rfl
  have hu := hr.units
  refine ⟨_, (pss_cons (ps_set (i := 1) sc_mate_of.nd rfl (Or.inl rfl) (pe_op op_fdiv (pe_op op_sub (pe_cl c_root_of ⟨rfl, rfl, rfl, rfl, rfl⟩ hr (by omega) rfl (pa_cons (pe_op op_mul (pe_op op_mul pe_int (pv 0)) (pv 0)) pa_nil)) (pv 0)) pe_int)) (pss_cons (ps_for PassesOwn.never rfl (pi_tup' (K := K) rfl (pe_tup (pa_cons (pv 1) (pa_cons (pe_op op_add (pv 1) pe_int) pa_nil)))) (pg_name (i := 2) sc_mate_of.nd rfl (Or.inl rfl)) (pss_one (ps_if (pt_cmpR op_eq (pe_ix (ix_tup' (K := K) rfl) (pe_cl c_pair_by ⟨rfl, rfl, rfl, rfl, rfl⟩ hr (by omega) rfl (pa_cons (pv 2) pa_nil)) pe_int (fun _ _ => rfl)) (pv 0) (nomark _)) (pss_one (ps_ret (pe_ix (ix_tup' (K := K) rfl) (pe_cl c_pair_by ⟨rfl, rfl, rfl, rfl, rfl⟩ hr (by omega) rfl (pa_cons (pv 2) pa_nil)) pe_int (fun _ _ => rfl)))) pss_nil))) (pss_cons (ps_setLc (i := 3) (own := [("number", 2)]) rfl sc_mate_of.nd rfl rfl (sw_true rfl rfl rfl (by decide +kernel)) (pi_range2 rfl G.b_range (pa_cons (pe_callB (call_max2 rfl) rfl G.b_max boot_max (pa_cons pe_int (pa_cons (pe_op op_sub (pe_op op_sub (pv 0) (pv 1)) pe_int) pa_nil))) (pa_cons (pe_op op_add (pe_op op_sub (pv 0) (pv 1)) pe_int) pa_nil))) (blkOk_by (N := N_mate_of) (sc := defScope s_mate_of) (by decide +kernel)) (fun _ _ _ _ _ => (pg_name (i := 2) sc_mate_of.nd rfl (by first | exact Or.inl rfl | exact Or.inr rfl))) (fun _ _ _ _ _ => (pts_one (pt_cmpR op_eq (pe_ix (ix_tup' (K := K) rfl) (pe_cl c_pair_by ⟨rfl, rfl, rfl, rfl, rfl⟩ hr (by omega) rfl (pa_cons (pv 2) pa_nil)) pe_int (fun _ _ => rfl)) (pv 0) (nomark _)))) (fun _ _ _ _ _ => (pv 2))) (pss_one (ps_ret (pe_ix (ix_tup' (K := K) rfl) (pe_cl c_pair_by ⟨rfl, rfl, rfl, rfl, rfl⟩ hr (by omega) rfl (pa_cons (pe_ix (ix_list' (K := K) rfl) (pv 3) pe_int (fun _ _ => rfl)) pa_nil)) pe_int (fun _ _ => rfl))))))), fun qs c Q hS hb => ?_⟩
  obtain ⟨n, rfl, ⟨hn0, hn1⟩, hQ⟩ := hS
  -- statement 1
  refine sw_seq (sw_set (ew_gen (ew_opC (ew_opI (ew_call (aw_cons (ew_opC (ew_opC (ew_int ⟨_, rfl, (ew_var rfl ⟨_, rfl, (Or.inl ⟨by decide, by decide⟩), ⟨_, rfl, (ew_var rfl ⟨_, rfl, (Or.inr ⟨by omega, by omega⟩), (aw_nil ⟨_, rfl, (A13 hn0 (by omega)), ⟨_, rfl, (ew_var rfl ⟨_, rfl, ⟨_, rfl, (ew_int ⟨_, rfl, ⟨by decide, by decide⟩, ⟨rfl, rfl⟩⟩)⟩⟩)⟩⟩)⟩)⟩⟩)⟩))))))) (fun nr hnr => ?_)))
  have hnr2 : nr = Gold.near n := hnr
  subst hnr2
  have hnb := near_bd hn0
  -- statement 2
  refine sw_seq (sw_for (iw_tup (ew_tup (aw_cons (ew_var rfl (aw_cons (ew_opI (ew_var rfl ⟨_, rfl, (ew_int ⟨_, rfl, (aw_nil ⟨(by show 2 ≤ 100000; decide), ⟨_, rfl, ⟨(fun i ρ c' => c = c' ∧ ∃ y, ρ = [some (.int n), some (.int (Gold.near n)), y, none] ∧ (1 ≤ i → Gold.A (Gold.near n) ≠ n) ∧ (2 ≤ i → Gold.A (Gold.near n + 1) ≠ n)), ⟨rfl, none, rfl, fun h => absurd h (by decide), fun h => absurd h (by decide)⟩, fun i p ρ' c' hi hP => ?_, fun ρ' c' hP => ?_⟩⟩⟩)⟩)⟩))))))))
  · obtain ⟨rfl, y, rfl, g1, g2⟩ := hP
    have hi2 : i < 2 := (List.getElem?_eq_some_iff.mp hi).1
    obtain ⟨j, hj, rfl⟩ : ∃ j : Int, j = (i : Int) ∧ p = .int (Gold.near n + j) := by
      have e : i = 0 ∨ i = 1 := by omega
      rcases e with rfl | rfl
      · injection hi with hi; exact ⟨0, rfl, by rw [← hi, Int.add_zero]⟩
      · injection hi with hi; exact ⟨1, rfl, by rw [← hi]⟩
    refine gw_name ?_
    -- statement 3
    refine sw_if (tw_test (ew_eqI (ew_ixT (ew_call (aw_cons (ew_var rfl (aw_nil ⟨_, rfl, (by walk_at "pl"), (ew_int ⟨_, _, _, rfl, rfl, (by walk_at "pl"), ⟨_, rfl, (ew_var rfl ⟨_, rfl, ⟨_, rfl, ⟨fun hx2 => ?_, fun hx2 => ?_⟩⟩⟩)⟩⟩)⟩)))))))
    · simp only [decide_eq_true_eq] at hx2
      have hpos := hx2
      -- statement 4
      refine sw_ret (ew_ixT (ew_call (aw_cons (ew_var rfl (aw_nil ⟨_, rfl, (by walk_at "pl"), (ew_int ⟨_, _, _, rfl, rfl, (by walk_at "pl"), ?_⟩)⟩)))))
      refine rt_is hQ ?_
      unfold mateI
      have e : i = 0 ∨ i = 1 := by omega
      rcases e with rfl | rfl
      · have e0 : j = 0 := hj
        subst e0
        rw [Int.add_zero] at hpos ⊢
        rw [if_pos hpos]
      · have e0 : j = 1 := hj
        subst e0
        rw [if_neg (g1 (Nat.le_refl 1)), if_pos hpos]
    · simp only [decide_eq_false_iff_not] at hx2
      have hneg := hx2
      refine sw_next ?_
      refine ⟨rfl, _, rfl, fun _ => ?_, fun h2 => ?_⟩
      · by_cases e : i = 0
        · intro z; apply hneg; rw [hj, e]; simpa using z
        · exact g1 (by omega)
      · have e : i = 1 := by omega
        intro z; apply hneg; rw [hj, e]; exact z
  · obtain ⟨rfl, y, rfl, g1, g2⟩ := hP
    have g1 := g1 (by show 1 ≤ 2; decide)
    have g2 := g2 (by show 2 ≤ 2; decide)
    -- statement 5
    refine sw_seq (sw_set (ew_lcT P.int (rangeI (if n - Gold.near n - 2 > 0 then n - Gold.near n - 2 else 0) (n - Gold.near n + 2 - (if n - Gold.near n - 2 > 0 then n - Gold.near n - 2 else 0)).toNat) (fun x => decide (Gold.A x + x = n)) P.int (gc_name (by decide)) (iw_rng2 (aw_cons (ew_max2 (aw_cons (ew_int (aw_cons (ew_opI (ew_opI (ew_var rfl ⟨_, rfl, (ew_var rfl ⟨_, rfl, ⟨_, rfl, (ew_int ⟨_, rfl, (aw_nil ⟨_, _, rfl, (aw_cons (ew_opI (ew_opI (ew_var rfl ⟨_, rfl, (ew_var rfl ⟨_, rfl, ⟨_, rfl, (ew_int ⟨_, rfl, (aw_nil ⟨_, _, rfl, (by split <;> exact ⟨by omega, by omega, by omega, by omega⟩), ⟨(rangeP_ints _ _), rfl⟩⟩)⟩)⟩⟩)⟩))))⟩)⟩)⟩⟩)⟩))))))))) (by unfold rangeI; rw [List.length_map, List.length_range]; split <;> omega) (fun x hx => have hx := mem_rangeI.mp hx; have hx1 : 0 ≤ x ∧ x ≤ 10 ^ 13 := (by split at hx <;> omega); gw_name ⟨rfl, (tw_test (ew_eqI (ew_ixT (ew_call (aw_cons (ew_var rfl (aw_nil ⟨_, rfl, (by walk_at "pl"), (ew_int ⟨_, _, _, rfl, rfl, (by walk_at "pl"), ⟨_, rfl, (ew_var rfl ⟨_, rfl, ⟨_, rfl, ⟨rfl, rfl⟩⟩⟩)⟩⟩)⟩))))))), fun hf => (ew_var rfl ⟨rfl, rfl⟩)⟩) ?_))
    have hfar := far_first (lo := if n - Gold.near n - 2 > 0 then n - Gold.near n - 2 else 0) (hi := n - Gold.near n + 2) hn0 g1 g2 (by split <;> omega) (by omega)
    -- statement 6
    refine sw_ret (ew_ixT (ew_call (aw_cons (ew_ixL (ew_var rfl (ew_int ⟨_, _, _, (.lst _), rfl, hfar.1, (aw_nil ⟨_, rfl, (by walk_at "pl"), (ew_int ⟨_, _, _, rfl, rfl, (by walk_at "pl"), ?_⟩)⟩)⟩))))))
    refine rt_is hQ ?_
    unfold mateI
    rw [if_neg g1, if_neg g2]
    exact congrArg P.int hfar.2

abbrev N_is_pair : List Str := ["one", "other", "low", "high"]
theorem sc_is_pair : FnScope N_is_pair ["one", "other"] (defScope s_is_pair) := ⟨rfl, rfl, rfl, by decide +kernel, rfl, by decide +kernel, by decide +kernel⟩
set_option maxHeartbeats 4000000 in
theorem ok_is_pair (G : GF K mg) (c_pair_by : Cl P₀ w K mg base 2 "pair_by" S_pair_by) : Cl P₀ w K mg base 3 "is_pair" S_is_pair := by
  refine pfn G.d_is_pair sc_is_pair (fun _ _ _ _ _ _ us hl => match us, hl with | [_, _], _ => rfl) (fun qs c Q h => ?_) (fun f cdv A outer s H E hr => ?_)
  · obtain ⟨a, b, rfl, ⟨h1, h2, h3, h4⟩, hQ⟩ := h; rfl
  have hu := hr.units
  refine ⟨_, (pss_cons (ps_par (i := 2) (j := 3) rfl sc_is_pair.nd rfl rfl (by decide) rfl rfl (pa_cons (pe_callB (call_min2 rfl) rfl G.b_min boot_min (pa_cons (pv 0) (pa_cons (pv 1) pa_nil))) (pa_cons (pe_callB (call_max2 rfl) rfl G.b_max boot_max (pa_cons (pv 0) (pa_cons (pv 1) pa_nil))) pa_nil)) rfl) (pss_one (ps_ret (pe_cmpR (op_eqD' (K := K) rfl hu) (pe_cl c_pair_by ⟨rfl, rfl, rfl, rfl, rfl⟩ hr (by omega) rfl (pa_cons (pe_op op_sub (pv 3) (pv 2)) pa_nil)) (pe_tup (pa_cons (pv 2) (pa_cons (pv 3) pa_nil))) (nomark _))))), fun qs c Q hS hb => ?_⟩
  obtain ⟨a, b, rfl, ⟨h1, h2, h3, h4⟩, hQ⟩ := hS
  -- statement 1
  refine sw_seq (sw_par (aw_cons (ew_min2 (aw_cons (ew_var rfl (aw_cons (ew_var rfl (aw_nil ⟨_, _, rfl, (aw_cons (ew_max2 (aw_cons (ew_var rfl (aw_cons (ew_var rfl (aw_nil ⟨_, _, rfl, (aw_nil ⟨_, _, rfl, ?_⟩)⟩)))))))⟩))))))))
  -- statement 2
  refine sw_ret (ew_eqD (ew_call (aw_cons (ew_opI (ew_var rfl ⟨_, rfl, (ew_var rfl ⟨_, rfl, (aw_nil ⟨_, rfl, (by split <;> split <;> exact ⟨by omega, by omega⟩), (ew_tup (aw_cons (ew_var rfl (aw_cons (ew_var rfl (aw_nil ⟨(by show 2 ≤ 100000; decide), ⟨⟨data_tup [_, _], data_tup [_, _], shaped_tup [_, _], shaped_tup [_, _]⟩, ?_⟩⟩))))))⟩)⟩)⟩)))))
  refine rt_is hQ ?_
  have e := eqv_tup [Gold.A (Gold.hi a b - Gold.lo a b), Gold.A (Gold.hi a b - Gold.lo a b) + (Gold.hi a b - Gold.lo a b)] [Gold.lo a b, Gold.hi a b]
  refine (congrArg P.bl e).trans ?_
  unfold pairB
  congr 1
  by_cases z : Gold.A (Gold.hi a b - Gold.lo a b) = Gold.lo a b
  · rw [decide_eq_true z, decide_eq_true]; rw [z]; congr 1; congr 1; omega
  · rw [decide_eq_false z, decide_eq_false]; intro y; injection y with y _; exact z y

abbrev N_two_win : List Str := ["one", "other"]
theorem sc_two_win : FnScope N_two_win ["one", "other"] (defScope s_two_win) := ⟨rfl, rfl, rfl, by decide +kernel, rfl, by decide +kernel, by decide +kernel⟩
set_option maxHeartbeats 4000000 in
theorem ok_two_win (G : GF K mg) (c_check_two : Cl P₀ w K mg base 3 "check_two" S_check_two) (c_is_pair : Cl P₀ w K mg base 3 "is_pair" S_is_pair) : Cl P₀ w K mg base 4 "two_win" S_two_win := by
  refine pfn G.d_two_win sc_two_win (fun _ _ _ _ _ _ us hl => match us, hl with | [_, _], _ => rfl) (fun qs c Q h => ?_) (fun f cdv A outer s H E hr => ?_)
  · obtain ⟨a, b, rfl, ⟨h1, h2, h3, h4⟩, hQ⟩ := h; rfl
  have hu := hr.units
  refine ⟨_, (pss_cons (ps_expr (pe_cl c_check_two ⟨rfl, rfl, rfl, rfl, rfl⟩ hr (by omega) rfl (pa_cons (pv 0) (pa_cons (pv 1) (pa_cons pe_int pa_nil))))) (pss_one (ps_ret (pe_not (pe_cl c_is_pair ⟨rfl, rfl, rfl, rfl, rfl⟩ hr (by omega) rfl (pa_cons (pv 0) (pa_cons (pv 1) pa_nil))))))), fun qs c Q hS hb => ?_⟩
  obtain ⟨a, b, rfl, ⟨h1, h2, h3, h4⟩, hQ⟩ := hS
  -- statement 1
  refine sw_seq (sw_drop (ew_call (aw_cons (ew_var rfl (aw_cons (ew_var rfl (aw_cons (ew_int (aw_nil ⟨_, _, _, rfl, ⟨h1, h2, h3, h4⟩, ?_⟩)))))))))
  -- statement 2
  refine sw_ret (ew_notV (ew_call (aw_cons (ew_var rfl (aw_cons (ew_var rfl (aw_nil ⟨_, _, rfl, ⟨h1, h2, h3, h4⟩, ⟨_, rfl, ?_⟩⟩)))))))
  first | exact .inl hQ | exact rt_is hQ (by simp) | exact rt_is hQ (by first | rfl | (congr 1 <;> simp; done))

theorem mateI_nn {s : Int} (h : 0 ≤ s) : 0 ≤ mateI s := by
  have hb := near_bd h
  unfold mateI
  split
  · rename_i e; omega
  · split
    · rename_i e; omega
    · omega
def dI (a b : Int) : Int := if a - b < 0 then -(a - b) else a - b
theorem dI_nn (a b : Int) : 0 ≤ dI a b := by unfold dI; split <;> omega
def candL (a b : Int) : List (Int × Int) := [(a, mateI a), (mateI b, b), (if decide (a < b) = true then Gold.A (dI a b) else Gold.A (dI a b) + dI a b, if decide (a < b) = true then Gold.A (dI a b) + dI a b else Gold.A (dI a b))]
theorem cand_good (a b : Int) : (candL a b).filter (fun z => decide (z.1 ≤ a) && decide (z.2 ≤ b)) = goodL a b := by
  unfold candL goodL diffP dI
  by_cases h : a < b
  · simp only [h, decide_true, if_true]
  · simp only [h, decide_false, if_false, Bool.false_eq_true]
theorem cand_nn {a b : Int} (ha : 0 ≤ a) (hb : 0 ≤ b) : ∀ z ∈ candL a b, 0 ≤ z.1 ∧ 0 ≤ z.2 := by
  intro z hz
  have hd := dI_nn a b
  have hA := (Gold.A_spec hd).1
  unfold candL at hz
  simp only [List.mem_cons, List.not_mem_nil, or_false] at hz
  rcases hz with rfl | rfl | rfl
  · exact ⟨ha, mateI_nn ha⟩
  · exact ⟨mateI_nn hb, hb⟩
  · dsimp only; constructor <;> split <;> omega

abbrev N_two_good : List Str := ["one", "other", "found", "low", "high", "good", "pair"]
theorem sc_two_good : FnScope N_two_good ["one", "other"] (defScope s_two_good) := ⟨rfl, rfl, rfl, by decide +kernel, rfl, by decide +kernel, by decide +kernel⟩
set_option maxHeartbeats 4000000 in
theorem ok_two_good (G : GF K mg) (c_check_two : Cl P₀ w K mg base 3 "check_two" S_check_two) (c_is_pair : Cl P₀ w K mg base 3 "is_pair" S_is_pair) (c_mate_of : Cl P₀ w K mg base 3 "mate_of" S_mate_of) (c_pair_by : Cl P₀ w K mg base 2 "pair_by" S_pair_by) : Cl P₀ w K mg base 4 "two_good" S_two_good := by
  refine pfn G.d_two_good sc_two_good (fun _ _ _ _ _ _ us hl => match us, hl with | [_, _], _ => rfl) (fun qs c Q h => ?_) (fun f cdv A outer s H E hr => ?_)
  · obtain ⟨a, b, rfl, ⟨h1, h2, h3, h4⟩, hQ⟩ := h; rfl
  have hu := hr.units
  refine ⟨_, (pss_cons (ps_expr (pe_cl c_check_two ⟨rfl, rfl, rfl, rfl, rfl⟩ hr (by omega) rfl (pa_cons (pv 0) (pa_cons (pv 1) (pa_cons pe_int pa_nil))))) (pss_cons (ps_if (pt_val (pe_cl c_is_pair ⟨rfl, rfl, rfl, rfl, rfl⟩ hr (by omega) rfl (pa_cons (pv 0) (pa_cons (pv 1) pa_nil)))) (pss_one (ps_ret (pe_tup pa_nil))) pss_nil) (pss_cons (ps_set (i := 2) sc_two_good.nd rfl (Or.inl rfl) (pe_lst (pa_cons (pe_tup (pa_cons (pv 0) (pa_cons (pe_cl c_mate_of ⟨rfl, rfl, rfl, rfl, rfl⟩ hr (by omega) rfl (pa_cons (pv 0) pa_nil)) pa_nil))) (pa_cons (pe_tup (pa_cons (pe_cl c_mate_of ⟨rfl, rfl, rfl, rfl, rfl⟩ hr (by omega) rfl (pa_cons (pv 1) pa_nil)) (pa_cons (pv 1) pa_nil))) pa_nil)))) (pss_cons (ps_asg (pe_cl c_pair_by ⟨rfl, rfl, rfl, rfl, rfl⟩ hr (by omega) rfl (pa_cons (pe_callB call_abs rfl G.b_abs boot_abs (pa_cons (pe_op op_sub (pv 0) (pv 1)) pa_nil)) pa_nil)) (pg_tup' (K := K) rfl rfl (pgs_cons (pg_name (i := 3) sc_two_good.nd rfl (Or.inl rfl)) (pgs_cons (pg_name (i := 4) sc_two_good.nd rfl (Or.inl rfl)) pgs_nil)))) (pss_cons (ps_expr (pe_bm' (K := K) rfl PySem.F.plainAttrs_list PySem.F.slot_list_append PySem.F.type_list_append mt_append (pv 2) (pa_cons (pe_ifExp (pt_cmpR op_lt (pv 0) (pv 1) (nomark _)) (pe_tup (pa_cons (pv 3) (pa_cons (pv 4) pa_nil))) (pe_tup (pa_cons (pv 4) (pa_cons (pv 3) pa_nil)))) pa_nil))) (pss_cons (ps_setLc (i := 5) (own := [("pair", 6)]) rfl sc_two_good.nd rfl rfl (sw_true rfl rfl rfl (by decide +kernel)) (pi_list' (K := K) rfl (pv 2)) (blkOk_by (N := N_two_good) (sc := defScope s_two_good) (by decide +kernel)) (fun _ _ _ _ _ => (pg_name (i := 6) sc_two_good.nd rfl (by first | exact Or.inl rfl | exact Or.inr rfl))) (fun _ _ _ _ _ => (pts_one (PW.pt (pw_and (pt_cmpR op_le (pe_ix (ix_tup' (K := K) rfl) (pv 6) pe_int (fun _ _ => rfl)) (pv 0) (nomark _)) (pw_and1 (pt_cmpR op_le (pe_ix (ix_tup' (K := K) rfl) (pv 6) pe_int (fun _ _ => rfl)) (pv 1) (nomark _))))))) (fun _ _ _ _ _ => (pv 6))) (pss_one (ps_ret (pe_callTy (call_tuple_of' (K := K) rfl) rfl G.b_tuple boot_tuple (pa_cons (pe_callB (cr_sortedT' (K := K) (P₀ := P₀) (w := w) rfl rfl rfl rfl) rfl G.b_sorted boot_sorted (pa_cons (pe_callTy (cr_setOfT' (K := K) (P₀ := P₀) (w := w) rfl rfl rfl rfl hu) rfl G.b_set boot_set (pa_cons (pv 5) pa_nil)) pa_nil)) pa_nil)))))))))), fun qs c Q hS hb => ?_⟩
  obtain ⟨a, b, rfl, ⟨h1, h2, h3, h4⟩, hQ⟩ := hS
  -- statement 1
  refine sw_seq (sw_drop (ew_call (aw_cons (ew_var rfl (aw_cons (ew_var rfl (aw_cons (ew_int (aw_nil ⟨_, _, _, rfl, ⟨h1, h2, h3, h4⟩, ?_⟩)))))))))
  -- statement 2
  refine sw_seq (sw_if (tw_B (ew_call (aw_cons (ew_var rfl (aw_cons (ew_var rfl (aw_nil ⟨_, _, rfl, ⟨h1, h2, h3, h4⟩, ⟨_, rfl, ⟨fun hx2 => ?_, fun hx2 => ?_⟩⟩⟩))))))))
  · have hp := hx2
    -- statement 3
    refine sw_ret (ew_tup (aw_nil ⟨(by show 0 ≤ 100000; decide), ?_⟩))
    refine .inl (hQ [] ?_)
    unfold GoodZ
    rw [if_pos hp]
  · have hp := hx2
    refine sw_next ?_
    -- statement 4
    refine sw_seq (sw_set (ew_lstC (aw_cons (ew_tup (aw_cons (ew_var rfl (aw_cons (ew_call (aw_cons (ew_var rfl (aw_nil ⟨_, rfl, (by walk_at "pl"), (aw_nil ⟨(by show 2 ≤ 100000; decide), (aw_cons (ew_tup (aw_cons (ew_call (aw_cons (ew_var rfl (aw_nil ⟨_, rfl, (by walk_at "pl"), (aw_cons (ew_var rfl (aw_nil ⟨(by show 2 ≤ 100000; decide), (aw_nil ⟨(by show 2 ≤ 100000; decide), ?_⟩)⟩)))⟩)))))))⟩)⟩)))))))))))
    -- statement 5
    refine sw_seq (sw_asg (ew_call (aw_cons (ew_abs (ew_opI (ew_var rfl ⟨_, rfl, (ew_var rfl ⟨_, rfl, ⟨_, rfl, (aw_nil ⟨_, rfl, (by split <;> exact ⟨by omega, by omega⟩), (gw_tup rfl (gws_cons (gw_name (gws_cons (gw_name (gws_nil ?_))))))⟩)⟩⟩)⟩))))))
    -- statement 6
    refine sw_seq (sw_drop (ew_app (ew_var rfl ⟨_, _, rfl, (by walk_at "pl"), (ew_ifTI2 (tw_test (ew_opB (ew_var rfl ⟨_, rfl, (ew_var rfl ⟨_, rfl, ⟨_, rfl, ⟨rfl, rfl⟩⟩⟩)⟩))) (fun hix7 => (ew_tup (aw_cons (ew_var rfl (aw_cons (ew_var rfl (aw_nil ⟨(by show 2 ≤ 100000; decide), ⟨rfl, rfl⟩⟩))))))) (fun hix7 => (ew_tup (aw_cons (ew_var rfl (aw_cons (ew_var rfl (aw_nil ⟨(by show 2 ≤ 100000; decide), ⟨rfl, rfl⟩⟩))))))) ⟨_, (by walk_at "pl"), (by walk_at "pl"), ?_⟩)⟩)))
    -- statement 7
    refine sw_seq (sw_set (ew_lcTC pairI (candL a b) (fun z => decide (z.1 ≤ a) && decide (z.2 ≤ b)) pairI (gc_name (by decide)) (iw_cell (ew_var rfl ⟨_, _, rfl, (by walk_at "pl"), ⟨rfl, rfl, (by walk_at "pl")⟩⟩)) (by show 3 ≤ 100000; decide) (fun x hx => gw_name ⟨rfl, (tw_and' (tw_test (ew_opB (ew_ixT (ew_var rfl (ew_int ⟨_, _, _, rfl, rfl, (by walk_at "pl"), ⟨_, rfl, (ew_var rfl ⟨_, rfl, ⟨_, rfl, ⟨rfl, rfl⟩⟩⟩)⟩⟩))))) (fun hbx8 => (tw_test (ew_opB (ew_ixT (ew_var rfl (ew_int ⟨_, _, _, rfl, rfl, (by walk_at "pl"), ⟨_, rfl, (ew_var rfl ⟨_, rfl, ⟨_, rfl, ⟨rfl, rfl⟩⟩⟩)⟩⟩)))))) ⟨rfl, rfl⟩), fun hf => (ew_var rfl ⟨rfl, rfl⟩)⟩) ?_))
    -- statement 8
    refine sw_ret (ew_tupleOf (ew_sortSet (10 ^ 14) (ew_var rfl ⟨((candL a b).filter fun z => decide (z.1 ≤ a) && decide (z.2 ≤ b)), (.lst _), ⟨Nat.lt_of_le_of_lt (List.length_filter_le _ _) (by show 3 < 64; decide), fun g hg => by
      have hg1 := List.mem_filter.mp hg
      have hn := cand_nn h1 h3 g hg1.1
      have hl := hg1.2
      simp only [Bool.and_eq_true, decide_eq_true_eq] at hl
      exact ⟨⟨hn.1, by omega⟩, hn.2, by omega⟩⟩, fun zsx9 hmx10 hnx11 hwx12 => ⟨_, (.l (.lst _)), ?_⟩⟩)))
    rw [set_app]
    refine rt_app hb (bels_pairs _ _) (hQ _ ?_)
    unfold GoodZ
    rw [if_neg (by rw [hp]; decide)]
    rw [cand_good] at *
    exact ⟨by assumption, by assumption, by assumption⟩
end K22

set_option Elab.async false
set_option linter.all false
set_option maxRecDepth 100000
local macro_rules | `(tactic| walk_at "pl") => `(tactic| first | assumption | rfl | omega | exact PL.get_app | exact PL.get_appS | exact ⟨by omega, by omega⟩ | exact Or.inl ⟨by omega, by omega⟩ | exact Or.inr ⟨by omega, by omega⟩ | (show (0 : Int) < _; omega) | decide | (simp only [List.length_cons, List.length_nil]; omega) | (refine ⟨?_, ?_⟩ <;> first | assumption | omega))
local macro_rules | `(tactic| walk_at "pl end") => `(tactic| first | exact .inl hQ | exact rt_is hQ (by simp))
local macro_rules | `(tactic| walk_at "pl dead") => `(tactic| first | omega | (intros; simp_all; done) | (intros; simp_all; omega))
namespace K22
open PySem PySem.Spec PyProof.Rows L2 Evl PL
variable {K : PySem.W.Frag} {P₀ : Program} {w : World} {mg : Str → Option Value} {base : Heap}
theorem wide_div {j : Int} (h : 0 < j) (h2 : j < 2 ^ 60) : CDivW 0 j := by
  refine ⟨h, ?_⟩
  have : j.natAbs.log2 < 60 := (Nat.log2_lt (by omega)).mpr (by omega)
  omega
theorem wide_div' {x j : Int} (h : 0 < j) (h2 : j < 2 ^ 60) : CDivW x j := wide_div h h2
theorem euc_left {l h t : Int} (hl : 0 < l) (hh : l ≤ h) (ht : t ∈ [h / l - 1, h / l].filter fun t => decide (t > 0)) : 0 < t ∧ 0 ≤ h - t * l ∧ h - t * l ≤ h := by
  rw [List.mem_filter] at ht
  obtain ⟨h1, h2⟩ := ht
  have h2 : 0 < t := of_decide_eq_true h2
  simp only [List.mem_cons, List.not_mem_nil, or_false] at h1
  have dm := Int.ediv_mul_add_emod h l
  have m1 := Int.emod_nonneg h (show l ≠ 0 by omega)
  have tp := Int.mul_pos h2 hl
  refine ⟨h2, ?_, by omega⟩
  rcases h1 with e | e
  · rw [e]
    have : (h / l - 1) * l = h / l * l - l := by grind
    omega
  · rw [e]; omega

abbrev N_euclid_wins : List Str := ["one", "other"]
theorem sc_euclid_wins : FnScope N_euclid_wins ["one", "other"] (defScope s_euclid_wins) := ⟨rfl, rfl, rfl, by decide +kernel, rfl, by decide +kernel, by decide +kernel⟩
set_option maxHeartbeats 4000000 in
theorem ok_euclid_wins (G : GF K mg) (c_check_two : Cl P₀ w K mg base 3 "check_two" S_check_two) (c_is_euclid_won : Cl P₀ w K mg base 2 "is_euclid_won" S_is_euclid_won) : Cl P₀ w K mg base 4 "euclid_wins" S_euclid_wins := by
  refine pfn G.d_euclid_wins sc_euclid_wins (fun _ _ _ _ _ _ us hl => match us, hl with | [_, _], _ => rfl) (fun qs c Q h => ?_) (fun f cdv A outer s H E hr => ?_)
  · obtain ⟨a, b, rfl, ⟨h1, h2, h3, h4⟩, hQ⟩ := h; rfl
  have hu := hr.units
  refine ⟨_, (pss_cons (ps_expr (pe_cl c_check_two ⟨rfl, rfl, rfl, rfl, rfl⟩ hr (by omega) rfl (pa_cons (pv 0) (pa_cons (pv 1) (pa_cons pe_int pa_nil))))) (pss_one (ps_ret (pe_cl c_is_euclid_won ⟨rfl, rfl, rfl, rfl, rfl⟩ hr (by omega) rfl (pa_cons (pv 0) (pa_cons (pv 1) pa_nil)))))), fun qs c Q hS hb => ?_⟩
  obtain ⟨a, b, rfl, ⟨h1, h2, h3, h4⟩, hQ⟩ := hS
  -- statement 1
  refine sw_seq (sw_drop (ew_call (aw_cons (ew_var rfl (aw_cons (ew_var rfl (aw_cons (ew_int (aw_nil ⟨_, _, _, rfl, ⟨h1, h2, h3, h4⟩, ?_⟩)))))))))
  -- statement 2
  refine sw_ret (ew_call (aw_cons (ew_var rfl (aw_cons (ew_var rfl (aw_nil ⟨_, _, rfl, ⟨by omega, by omega, by omega, by omega⟩, ?_⟩))))))
  first | exact .inl hQ | exact rt_is hQ (by simp) | exact rt_is hQ (by first | rfl | (congr 1 <;> simp; done))

abbrev N_euclid_good : List Str := ["one", "other", "low", "high", "most", "some", "times"]
theorem sc_euclid_good : FnScope N_euclid_good ["one", "other"] (defScope s_euclid_good) := ⟨rfl, rfl, rfl, by decide +kernel, rfl, by decide +kernel, by decide +kernel⟩
set_option maxHeartbeats 4000000 in
theorem ok_euclid_good (G : GF K mg) (c_check_two : Cl P₀ w K mg base 3 "check_two" S_check_two) (c_is_euclid_won : Cl P₀ w K mg base 2 "is_euclid_won" S_is_euclid_won) : Cl P₀ w K mg base 4 "euclid_good" S_euclid_good := by
  refine pfn G.d_euclid_good sc_euclid_good (fun _ _ _ _ _ _ us hl => match us, hl with | [_, _], _ => rfl) (fun qs c Q h => ?_) (fun f cdv A outer s H E hr => ?_)
  · obtain ⟨a, b, rfl, ⟨h1, h2, h3, h4⟩, hQ⟩ := h; rfl
  have hu := hr.units
  refine ⟨_, (pss_cons (ps_expr (pe_cl c_check_two ⟨rfl, rfl, rfl, rfl, rfl⟩ hr (by omega) rfl (pa_cons (pv 0) (pa_cons (pv 1) (pa_cons pe_int pa_nil))))) (pss_cons (ps_asg (pe_tup (pa_cons (pe_callB (call_min2 rfl) rfl G.b_min boot_min (pa_cons (pv 0) (pa_cons (pv 1) pa_nil))) (pa_cons (pe_callB (call_max2 rfl) rfl G.b_max boot_max (pa_cons (pv 0) (pa_cons (pv 1) pa_nil))) pa_nil))) (pg_tup' (K := K) rfl rfl (pgs_cons (pg_name (i := 2) sc_euclid_good.nd rfl (Or.inr rfl)) (pgs_cons (pg_name (i := 3) sc_euclid_good.nd rfl (Or.inr rfl)) pgs_nil)))) (pss_cons (ps_set (i := 4) sc_euclid_good.nd rfl (Or.inl rfl) (pe_op op_fdivW (pv 3) (pv 2))) (pss_cons (ps_setLc (i := 5) (own := [("times", 6)]) rfl sc_euclid_good.nd rfl rfl (sw_true rfl rfl rfl (by decide +kernel)) (pi_tup' (K := K) rfl (pe_tup (pa_cons (pe_op op_sub (pv 4) pe_int) (pa_cons (pv 4) pa_nil)))) (blkOk_by (N := N_euclid_good) (sc := defScope s_euclid_good) (by decide +kernel)) (fun _ _ _ _ _ => (pg_name (i := 6) sc_euclid_good.nd rfl (by first | exact Or.inl rfl | exact Or.inr rfl))) (fun _ _ _ _ _ => (pts_one (pt_cmpR op_gt (pv 6) pe_int (nomark _)))) (fun _ _ _ _ _ => (pv 6))) (pss_one (ps_ret (pe_callTy (call_tuple_of' (K := K) rfl) rfl G.b_tuple boot_tuple (pa_cons (pe_lc (own := [("times", 6)]) rfl sc_euclid_good.nd (pi_list' (K := K) rfl (pv 5)) (blkOk_by (N := N_euclid_good) (sc := defScope s_euclid_good) (by decide +kernel)) (fun _ _ _ _ _ => (pg_name (i := 6) sc_euclid_good.nd rfl (by first | exact Or.inl rfl | exact Or.inr rfl))) (fun _ _ _ _ _ => (pts_one (pt_not (pt_val (pe_cl c_is_euclid_won ⟨rfl, rfl, rfl, rfl, rfl⟩ hr (by omega) rfl (pa_cons (pv 2) (pa_cons (pe_op op_sub (pv 3) (pe_op op_mul (pv 6) (pv 2))) pa_nil))))))) (fun _ _ _ _ _ => (pv 6))) pa_nil)))))))), fun qs c Q hS hb => ?_⟩
  obtain ⟨a, b, rfl, ⟨h1, h2, h3, h4⟩, hQ⟩ := hS
  -- statement 1
  refine sw_seq (sw_drop (ew_call (aw_cons (ew_var rfl (aw_cons (ew_var rfl (aw_cons (ew_int (aw_nil ⟨_, _, _, rfl, ⟨h1, h2, h3, h4⟩, ?_⟩)))))))))
  -- statement 2
  refine sw_seq (sw_asg (ew_tup (aw_cons (ew_min2 (aw_cons (ew_var rfl (aw_cons (ew_var rfl (aw_nil ⟨_, _, rfl, (aw_cons (ew_max2 (aw_cons (ew_var rfl (aw_cons (ew_var rfl (aw_nil ⟨_, _, rfl, (aw_nil ⟨(by show 2 ≤ 100000; decide), (gw_tup rfl (gws_cons (gw_name (gws_cons (gw_name (gws_nil ?_))))))⟩)⟩)))))))⟩)))))))))
  have hlo : 1 ≤ Gold.lo a b ∧ Gold.lo a b ≤ 10 ^ 12 := by unfold Gold.lo; split <;> omega
  have hhi : Gold.lo a b ≤ Gold.hi a b ∧ Gold.hi a b ≤ 10 ^ 12 := by unfold Gold.lo Gold.hi; split <;> split <;> omega
  -- statement 3
  refine sw_seq (sw_set (ew_opC (ew_var rfl ⟨_, rfl, (ew_var rfl ⟨_, rfl, (show CDivW _ _ from wide_div' (show 0 < Gold.lo a b by omega) (show Gold.lo a b < 2 ^ 60 by omega)), ?_⟩)⟩)))
  -- statement 4
  refine sw_seq (sw_set (ew_lcT P.int [Gold.hi a b / Gold.lo a b - 1, Gold.hi a b / Gold.lo a b] (fun t => decide (t > 0)) P.int (gc_name (by decide)) (iw_tup (ew_tup (aw_cons (ew_opI (ew_var rfl ⟨_, rfl, (ew_int ⟨_, rfl, (aw_cons (ew_var rfl (aw_nil ⟨(by show 2 ≤ 100000; decide), ⟨_, rfl, ⟨rfl, rfl⟩⟩⟩)))⟩)⟩))))) (by show 2 ≤ 100000; decide) (fun x hx => gw_name ⟨rfl, (tw_test (ew_opB (ew_var rfl ⟨_, rfl, (ew_int ⟨_, rfl, ⟨_, rfl, ⟨rfl, rfl⟩⟩⟩)⟩))), fun hf => (ew_var rfl ⟨rfl, rfl⟩)⟩) ?_))
  -- statement 5
  refine sw_ret (ew_tupleOf (ew_lcT P.int ([Gold.hi a b / Gold.lo a b - 1, Gold.hi a b / Gold.lo a b].filter fun t => decide (t > 0)) (fun t => !wonI (Gold.lo a b) (Gold.hi a b - t * Gold.lo a b)) P.int (gc_name (by decide)) (iw_list (ew_var rfl ⟨_, rfl, ⟨rfl, rfl⟩⟩)) (Nat.le_trans (List.length_filter_le _ _) (by show 2 ≤ 100000; decide)) (fun x hx => have hx := euc_left (by omega) hhi.1 hx; gw_name ⟨rfl, (tw_not (tw_B (ew_call (aw_cons (ew_var rfl (aw_cons (ew_opI (ew_var rfl ⟨_, rfl, (ew_opC (ew_var rfl ⟨_, rfl, (ew_var rfl ⟨_, rfl, (.inr ⟨show -2 ^ 64 < Gold.lo a b by omega, show Gold.lo a b < 2 ^ 64 by omega⟩), ⟨_, rfl, (aw_nil ⟨_, _, rfl, ⟨show 0 ≤ Gold.lo a b by omega, show Gold.lo a b < 2 ^ 60 by omega, hx.2.1, show Gold.hi a b - x * Gold.lo a b < 2 ^ 60 by omega⟩, ⟨_, rfl, ⟨rfl, rfl⟩⟩⟩)⟩⟩)⟩))⟩)))))))), fun hf => (ew_var rfl ⟨rfl, rfl⟩)⟩) ⟨_, (.l (.lst _)), ?_⟩))
  refine rt_is hQ ?_
  unfold goodI Gold.goodE wonI
  rfl

def fibP (k : Nat) : List P := (List.range k).map fun i => P.int (Gold.F i)
theorem fibP_len (k : Nat) : (fibP k).length = k := by unfold fibP; rw [List.length_map, List.length_range]
theorem fibP_succ (k : Nat) : fibP (k + 1) = fibP k ++ [.int (Gold.F k)] := by unfold fibP; rw [List.range_succ, List.map_append]; rfl
theorem fibP_ints (k : Nat) : fibP k = ((List.range k).map Gold.F).map P.int := by unfold fibP; rw [List.map_map]; rfl
theorem atI_neg {xs : List P} {d : Nat} {y : P} (hd : 0 < d) (hl : d ≤ xs.length) (h : xs[xs.length - d]? = some y) : atI xs (-(d : Int)) = some y := by
  unfold atI ixN
  rw [if_neg (by omega), if_pos (by omega)]
  have : ((-(d : Int)) + (xs.length : Int)).toNat = xs.length - d := by omega
  first | (rw [this]; exact h) | (simp only [this]; exact h) | skip
theorem fib_get {k i : Nat} (h : i < k) : (fibP k)[i]? = some (.int (Gold.F i)) := by
  unfold fibP
  rw [List.getElem?_map, List.getElem?_range h]; rfl
theorem fib_last (k : Nat) : atI (fibP (k + 2)) (-1) = some (.int (Gold.F (k + 1))) := atI_neg (d := 1) (by decide) (by rw [fibP_len]; omega) (by rw [fibP_len]; exact fib_get (by omega))
theorem fib_last2 (k : Nat) : atI (fibP (k + 2)) (-2) = some (.int (Gold.F k)) := atI_neg (d := 2) (by decide) (by rw [fibP_len]; omega) (by rw [fibP_len]; exact fib_get (by omega))

theorem fib_filter {k : Nat} {n : Int} (h1 : Gold.F k ≤ n) (h2 : n < Gold.F (k + 1)) : ((List.range (k + 2)).filter fun i => decide (Gold.F i ≤ n)) = List.range (k + 1) := by
  rw [List.range_succ (n := k + 1), List.filter_append]
  have e1 : ([k + 1].filter fun i => decide (Gold.F i ≤ n)) = [] := by
    rw [List.filter_eq_nil_iff]
    intro i hi
    rw [List.mem_singleton] at hi
    subst hi
    rw [decide_eq_true_eq]; omega
  rw [e1, List.append_nil, List.filter_eq_self]
  intro i hi
  have := List.mem_range.mp hi
  have := Gold.F_mono (show i ≤ k by omega)
  rw [decide_eq_true_eq]; omega
theorem F_exp : ∀ k : Nat, (2 : Int) ^ (k / 2) ≤ Gold.F k
  | 0 => by decide
  | 1 => by decide
  | k + 2 => by
    have h1 := F_exp k
    have h2 := Gold.F_lt k
    have e : Gold.F (k + 2) = Gold.F (k + 1) + Gold.F k := rfl
    rw [show (k + 2) / 2 = k / 2 + 1 by omega, Int.pow_succ]
    omega
theorem F_k {k : Nat} {n : Int} (h : Gold.F k ≤ n) (hn : n ≤ 10 ^ 12) : k < 100 := by
  rcases Nat.lt_or_ge k 100 with c | c
  · exact c
  · have h1 := F_exp 100
    have h2 := Gold.F_mono c
    have h3 : (2 : Int) ^ (100 / 2) = 1125899906842624 := by decide
    omega

abbrev N_fibonacci : List Str := ["upto", "found", "number"]
theorem sc_fibonacci : FnScope N_fibonacci ["upto"] (defScope s_fibonacci) := ⟨rfl, rfl, rfl, by decide +kernel, rfl, by decide +kernel, by decide +kernel⟩
set_option maxHeartbeats 4000000 in
theorem ok_fibonacci (G : GF K mg) : Cl P₀ w K mg base 1 "fibonacci" S_fibonacci := by
  refine pfn G.d_fibonacci sc_fibonacci (fun _ _ _ _ _ _ us hl => match us, hl with | [_], _ => rfl) (fun qs c Q h => ?_) (fun f cdv A outer s H E hr => ?_)
  · obtain ⟨n, rfl, ⟨h1, h2⟩, hQ⟩ := h; rfl
  have hu := hr.units
  refine ⟨_, (pss_cons (ps_set (i := 1) sc_fibonacci.nd rfl (Or.inl rfl) (pe_lst (pa_cons pe_int (pa_cons pe_int pa_nil)))) (pss_cons (ps_while PassesOwn.never (pt_cmpR op_le (pe_ix (ix_list' (K := K) rfl) (pv 1) (pe_un un_neg pe_int) (fun _ _ => rfl)) (pv 0) (nomark _)) (pss_one (ps_expr (pe_bm' (K := K) rfl PySem.F.plainAttrs_list PySem.F.slot_list_append PySem.F.type_list_append mt_append (pv 1) (pa_cons (pe_op op_add (pe_ix (ix_list' (K := K) rfl) (pv 1) (pe_un un_neg pe_int) (fun _ _ => rfl)) (pe_ix (ix_list' (K := K) rfl) (pv 1) (pe_un un_neg pe_int) (fun _ _ => rfl))) pa_nil))))) (pss_one (ps_ret (pe_lc (own := [("number", 2)]) rfl sc_fibonacci.nd (pi_list' (K := K) rfl (pv 1)) (blkOk_by (N := N_fibonacci) (sc := defScope s_fibonacci) (by decide +kernel)) (fun _ _ _ _ _ => (pg_name (i := 2) sc_fibonacci.nd rfl (by first | exact Or.inl rfl | exact Or.inr rfl))) (fun _ _ _ _ _ => (pts_one (pt_cmpR op_le (pv 2) (pv 0) (nomark _)))) (fun _ _ _ _ _ => (pv 2))))))), fun qs c Q hS hb => ?_⟩
  obtain ⟨n, rfl, ⟨h1, h2⟩, hQ⟩ := hS
  -- statement 1
  refine sw_seq (sw_set (ew_lstC (aw_cons (ew_int (aw_cons (ew_int (aw_nil ⟨(by show 2 ≤ 100000; decide), ?_⟩)))))))
  -- statement 2
  refine sw_seq (sw_while (fun (μ : Nat) ρ c' => ∃ k : Nat, c' = c ++ [.lst (fibP (k + 2))] ∧ ρ = [some (.int n), some (.cell c.length), none] ∧ Gold.F k ≤ n ∧ μ = (n + 2 - Gold.F (k + 1)).toNat) n.toNat ⟨0, rfl, rfl, h1, by show n.toNat = (n + 2 - 2).toNat; omega⟩ (fun μ ρ' c' hW => ?_))
  obtain ⟨k, rfl, rfl, g1, hμ⟩ := hW
  have hk100 := F_k g1 h2
  refine (tw_test (ew_opB (ew_ixL (ew_var rfl (ew_un (ew_int ⟨_, rfl, ⟨_, _, _, (.cell get_app), rfl, (fib_last _), ⟨_, rfl, (ew_var rfl ⟨_, rfl, ⟨_, rfl, ⟨fun hx1 => ⟨fun ρ2 c2 => ∃ μ', μ' < μ ∧ ((fun (μ : Nat) ρ c' => ∃ k : Nat, c' = c ++ [.lst (fibP (k + 2))] ∧ ρ = [some (.int n), some (.cell c.length), none] ∧ Gold.F k ≤ n ∧ μ = (n + 2 - Gold.F (k + 1)).toNat)) μ' ρ2 c2, fun _ _ h => h, ?_⟩, fun hx1 => ?_⟩⟩⟩)⟩⟩⟩))))))
  · simp only [decide_eq_true_eq] at hx1
    have hlt := Gold.F_lt (k + 1)
    have hup := hx1
    have hsz : (fibP (k + 2)).length < 100000 := by rw [fibP_len]; omega
    -- statement 3
    refine sw_drop (ew_app (ew_var rfl ⟨_, _, rfl, (by walk_at "pl"), (ew_opI (ew_ixL (ew_var rfl (ew_un (ew_int ⟨_, rfl, ⟨_, _, _, (.cell get_app), rfl, (fib_last _), ⟨_, rfl, (ew_ixL (ew_var rfl (ew_un (ew_int ⟨_, rfl, ⟨_, _, _, (.cell get_app), rfl, (fib_last2 _), ⟨_, rfl, ⟨_, (by walk_at "pl"), (by walk_at "pl"), ?_⟩⟩⟩⟩))))⟩⟩⟩)))))⟩))
    refine ⟨_, ?_, k + 1, ?_, rfl, hup, rfl⟩
    · omega
    · rw [set_app, fibP_succ (k + 2)]; rfl
  · simp only [decide_eq_false_iff_not, Int.not_le] at hx1
    have hend := hx1
    -- statement 4
    refine sw_ret (ew_lcTC (fun i : Nat => P.int (Gold.F i)) (List.range (k + 2)) (fun i : Nat => decide (Gold.F i ≤ n)) (fun i : Nat => P.int (Gold.F i)) (gc_name (by decide)) (iw_cell (ew_var rfl ⟨_, _, rfl, (by walk_at "pl"), ⟨rfl, rfl, (by walk_at "pl")⟩⟩)) (by rw [List.length_range]; omega) (fun x hx => gw_name ⟨rfl, (tw_test (ew_opB (ew_var rfl ⟨_, rfl, (ew_var rfl ⟨_, rfl, ⟨_, rfl, ⟨rfl, rfl⟩⟩⟩)⟩))), fun hf => (ew_var rfl ⟨rfl, rfl⟩)⟩) ?_)
    rw [fib_filter g1 hend]
    refine rt_app hb ?_ (hQ (k + 1) (by omega) (fun i hi => ?_) hend)
    · have e := fibP_ints (k + 1)
      unfold fibP at e
      rw [e]; exact bels_ints _ _
    · have := Gold.F_mono (show i ≤ k by omega); omega

theorem rev_fib {k i : Nat} {p : P} (h : ((List.range k).map fun i => P.int (Gold.F i)).reverse[i]? = some p) : ∃ j, k - i = j + 1 ∧ i < k ∧ p = .int (Gold.F j) := by
  have hl := (List.getElem?_eq_some_iff.mp h).1
  rw [List.length_reverse, List.length_map, List.length_range] at hl
  rw [List.getElem?_reverse (by rw [List.length_map, List.length_range]; exact hl), List.length_map, List.length_range, List.getElem?_map, List.getElem?_range (by omega)] at h
  injection h with h
  exact ⟨k - 1 - i, by omega, hl, h.symm⟩
theorem gr_step {j : Nat} {l : Int} : Gold.gr (j + 1) l = if Gold.F j ≤ l then Gold.F j :: Gold.gr j (l - Gold.F j) else Gold.gr j l := rfl

abbrev N_parts_of : List Str := ["number", "found", "left", "one"]
theorem sc_parts_of : FnScope N_parts_of ["number"] (defScope s_parts_of) := ⟨rfl, rfl, rfl, by decide +kernel, rfl, by decide +kernel, by decide +kernel⟩
set_option maxHeartbeats 4000000 in
theorem ok_parts_of (G : GF K mg) (c_fibonacci : Cl P₀ w K mg base 1 "fibonacci" S_fibonacci) : Cl P₀ w K mg base 2 "parts_of" S_parts_of := by
  refine pfn G.d_parts_of sc_parts_of (fun _ _ _ _ _ _ us hl => match us, hl with | [_], _ => rfl) (fun qs c Q h => ?_) (fun f cdv A outer s H E hr => ?_)
  · obtain ⟨n, rfl, ⟨h1, h2⟩, hQ⟩ := h; rfl
  have hu := hr.units
  refine ⟨_, (pss_cons (ps_par (i := 1) (j := 2) rfl sc_parts_of.nd rfl rfl (by decide) rfl rfl (pa_cons (pe_lst pa_nil) (pa_cons (pv 0) pa_nil)) rfl) (pss_cons (ps_for PassesOwn.never rfl (pi_list' (K := K) rfl (pe_revL (pe_cl c_fibonacci ⟨rfl, rfl, rfl, rfl, rfl⟩ hr (by omega) rfl (pa_cons (pv 0) pa_nil)))) (pg_name (i := 3) sc_parts_of.nd rfl (Or.inl rfl)) (pss_one (ps_if (pt_cmpR op_le (pv 3) (pv 2) (nomark _)) (pss_cons (ps_expr (pe_bm' (K := K) rfl PySem.F.plainAttrs_list PySem.F.slot_list_append PySem.F.type_list_append mt_append (pv 1) (pa_cons (pv 3) pa_nil))) (pss_one (ps_set (i := 2) sc_parts_of.nd rfl (Or.inl rfl) (pe_op op_sub (pv 2) (pv 3))))) pss_nil))) (pss_one (ps_ret (pe_callTy (call_tuple_of' (K := K) rfl) rfl G.b_tuple boot_tuple (pa_cons (pv 1) pa_nil)))))), fun qs c Q hS hb => ?_⟩
  obtain ⟨n, rfl, ⟨h1, h2⟩, hQ⟩ := hS
  -- statement 1
  refine sw_seq (sw_par (aw_cons (ew_lstC (aw_nil ⟨(by show 0 ≤ 100000; decide), (aw_cons (ew_var rfl (aw_nil ⟨_, _, rfl, ?_⟩)))⟩))))
  -- statement 2
  refine sw_seq (sw_for (iw_list (ew_revL (ew_call (aw_cons (ew_var rfl (aw_nil ⟨_, rfl, (by walk_at "pl"), fun fk1 hf1 hg1 hh1 => ⟨_, (.lst _), ⟨_, rfl, ⟨(fun i ρ c' => ∃ (acc : List Int) (l : Int) (y : Option P), c' = c ++ [.lst (acc.map P.int)] ∧ ρ = [some (.int n), some (.cell c.length), some (.int l), y] ∧ acc.length ≤ i ∧ 0 ≤ l ∧ acc ++ Gold.gr (fk1 - i) l = Gold.gr fk1 n), ⟨[], n, none, rfl, rfl, Nat.le_refl 0, by omega, rfl⟩, fun i p ρ' c' hi hP => ?_, fun ρ' c' hP => ?_⟩⟩⟩⟩)))))))
  · obtain ⟨acc, l, y, rfl, rfl, ha, hl0, hg⟩ := hP
    obtain ⟨j, hj, hik, rfl⟩ := rev_fib hi
    have hgs := gr_step (j := j) (l := l)
    have hFp := Gold.F_pos j
    have hsz : (acc.map P.int).length < 100000 := by rw [List.length_map]; omega
    refine gw_name ?_
    -- statement 3
    refine sw_if (tw_test (ew_opB (ew_var rfl ⟨_, rfl, (ew_var rfl ⟨_, rfl, ⟨_, rfl, ⟨fun hx2 => ?_, fun hx2 => ?_⟩⟩⟩)⟩)))
    · simp only [decide_eq_true_eq] at hx2
      rw [if_pos hx2] at hgs
      have hbr : True := trivial
      -- statement 4
      refine sw_seq (sw_drop (ew_app (ew_var rfl ⟨_, _, rfl, (by walk_at "pl"), (ew_var rfl ⟨_, (by walk_at "pl"), (by walk_at "pl"), ?_⟩)⟩)))
      -- statement 5
      refine sw_set (ew_opI (ew_var rfl ⟨_, rfl, (ew_var rfl ⟨_, rfl, ?_⟩)⟩))
      first | exact ⟨acc ++ [Gold.F j], l - Gold.F j, _, by rw [set_app, List.map_append]; rfl, rfl, by rw [List.length_append]; exact Nat.add_le_add_right ha 1, by omega, by rw [show fk1 - (i + 1) = j by omega, List.append_assoc]; rw [hj, hgs] at hg; exact hg⟩ | exact ⟨acc, l, _, rfl, rfl, by omega, hl0, by rw [show fk1 - (i + 1) = j by omega]; rw [hj, hgs] at hg; exact hg⟩
    · simp only [decide_eq_false_iff_not] at hx2
      rw [if_neg hx2] at hgs
      have hbr : True := trivial
      refine sw_next ?_
      first | exact ⟨acc ++ [Gold.F j], l - Gold.F j, _, by rw [set_app, List.map_append]; rfl, rfl, by rw [List.length_append]; exact Nat.add_le_add_right ha 1, by omega, by rw [show fk1 - (i + 1) = j by omega, List.append_assoc]; rw [hj, hgs] at hg; exact hg⟩ | exact ⟨acc, l, _, rfl, rfl, by omega, hl0, by rw [show fk1 - (i + 1) = j by omega]; rw [hj, hgs] at hg; exact hg⟩
  · obtain ⟨acc, l, y, rfl, rfl, ha, hl0, hg⟩ := hP
    rw [List.length_reverse, List.length_map, List.length_range, Nat.sub_self] at hg
    -- statement 6
    refine sw_ret (ew_tupleOf (ew_var rfl ⟨_, (.l (.cell (by walk_at "pl"))), ?_⟩))
    have e : acc = Gold.gr fk1 n := by rw [← hg]; simp [Gold.gr]
    rw [Gold.parts_at (by omega) hh1] at e
    subst e
    refine rt_app hb (bels_ints _ _) ?_
    unfold partsI at hQ
    exact hQ

abbrev N_parted : List Str := ["number"]
theorem sc_parted : FnScope N_parted ["number"] (defScope s_parted) := ⟨rfl, rfl, rfl, by decide +kernel, rfl, by decide +kernel, by decide +kernel⟩
set_option maxHeartbeats 4000000 in
theorem ok_parted (G : GF K mg) (c_is_between : Cl P₀ w K mg base 2 "is_between" S_is_between) (c_parts_of : Cl P₀ w K mg base 2 "parts_of" S_parts_of) : Cl P₀ w K mg base 3 "parted" S_parted := by
  refine pfn G.d_parted sc_parted (fun _ _ _ _ _ _ us hl => match us, hl with | [_], _ => rfl) (fun qs c Q h => ?_) (fun f cdv A outer s H E hr => ?_)
  · obtain ⟨n, rfl, ⟨h1, h2⟩, hQ⟩ := h; rfl
  have hu := hr.units
  refine ⟨_, (pss_cons (ps_if (pt_not (pt_val (pe_cl c_is_between ⟨rfl, rfl, rfl, rfl, rfl⟩ hr (by omega) rfl (pa_cons (pv 0) (pa_cons pe_int (pa_cons (pe_gint G.c_MOST_HEAP rfl) pa_nil)))))) (pss_one ps_dead) pss_nil) (pss_one (ps_ret (pe_cl c_parts_of ⟨rfl, rfl, rfl, rfl, rfl⟩ hr (by omega) rfl (pa_cons (pv 0) pa_nil))))), fun qs c Q hS hb => ?_⟩
  obtain ⟨n, rfl, ⟨h1, h2⟩, hQ⟩ := hS
  -- statement 1
  refine sw_seq (sw_if (tw_not (tw_B (ew_call (aw_cons (ew_var rfl (aw_cons (ew_int (aw_cons (ew_int (aw_nil ⟨_, _, _, rfl, ⟨_, rfl, ⟨fun hx1 => ?_, fun hx1 => ?_⟩⟩⟩)))))))))))
  · try simp only [decide_eq_true_eq, decide_eq_false_iff_not, Bool.or_eq_true, Bool.and_eq_true, Bool.or_eq_false_iff, Bool.and_eq_false_iff, Bool.not_eq_true', Bool.not_eq_false', Bool.not_true, Bool.not_false, Int.not_lt, Int.not_le] at hx1
    -- statement 2
    exact False.elim (by first | omega | (simp_all; done) | (simp_all; omega))
  · try simp only [decide_eq_true_eq, decide_eq_false_iff_not, Bool.or_eq_true, Bool.and_eq_true, Bool.or_eq_false_iff, Bool.and_eq_false_iff, Bool.not_eq_true', Bool.not_eq_false', Bool.not_true, Bool.not_false, Int.not_lt, Int.not_le] at hx1
    refine sw_next ?_
    -- statement 3
    refine sw_ret (ew_call (aw_cons (ew_var rfl (aw_nil ⟨_, rfl, (by walk_at "pl"), ?_⟩))))
    first | exact .inl hQ | exact rt_is hQ (by simp) | exact rt_is hQ (by first | rfl | (congr 1 <;> simp; done))
end K22

set_option Elab.async false
set_option linter.all false
set_option maxRecDepth 100000
local macro_rules | `(tactic| walk_at "pl") => `(tactic| first | assumption | rfl | omega | exact PL.get_app | exact PL.get_appS | exact ⟨by omega, by omega⟩ | exact Or.inl ⟨by omega, by omega⟩ | exact Or.inr ⟨by omega, by omega⟩ | (show (0 : Int) < _; omega) | decide | (simp only [List.length_cons, List.length_nil]; omega) | (refine ⟨?_, ?_⟩ <;> first | assumption | omega))
local macro_rules | `(tactic| walk_at "pl end") => `(tactic| first | exact .inl hQ | exact rt_is hQ (by simp))
local macro_rules | `(tactic| walk_at "pl dead") => `(tactic| first | omega | (intros; simp_all; done) | (intros; simp_all; omega))
namespace K22
open PySem PySem.Spec PyProof.Rows L2 Evl PL
variable {K : PySem.W.Frag} {P₀ : Program} {w : World} {mg : Str → Option Value} {base : Heap}
theorem big12 : (10 : Int) ^ 12 = 1000000000000 := by decide

abbrev N_check_double : List Str := ["size", "bound", "number"]
theorem sc_check_double : FnScope N_check_double ["size", "bound"] (defScope s_check_double) := ⟨rfl, rfl, rfl, by decide +kernel, rfl, by decide +kernel, by decide +kernel⟩
set_option maxHeartbeats 4000000 in
theorem ok_check_double (G : GF K mg) (c_is_between : Cl P₀ w K mg base 2 "is_between" S_is_between) : Cl P₀ w K mg base 3 "check_double" S_check_double := by
  refine pfn G.d_check_double sc_check_double (fun _ _ _ _ _ _ us hl => match us, hl with | [_, _], _ => rfl) (fun qs c Q h => ?_) (fun f cdv A outer s H E hr => ?_)
  · obtain ⟨a, b, rfl, ⟨h1, h2, h3, h4⟩, hQ⟩ := h; rfl
  have hu := hr.units
  refine ⟨_, (pss_one (ps_for PassesOwn.never rfl (pi_tup' (K := K) rfl (pe_tup (pa_cons (pv 0) (pa_cons (pv 1) pa_nil)))) (pg_name (i := 2) sc_check_double.nd rfl (Or.inl rfl)) (pss_one (ps_if (pt_not (pt_val (pe_cl c_is_between ⟨rfl, rfl, rfl, rfl, rfl⟩ hr (by omega) rfl (pa_cons (pv 2) (pa_cons pe_int (pa_cons (pe_gint G.c_MOST_HEAP rfl) pa_nil)))))) (pss_one ps_dead) pss_nil)))), fun qs c Q hS hb => ?_⟩
  obtain ⟨a, b, rfl, ⟨h1, h2, h3, h4⟩, hQ⟩ := hS
  -- statement 1
  refine sw_for (iw_tup (ew_tup (aw_cons (ew_var rfl (aw_cons (ew_var rfl (aw_nil ⟨(by show 2 ≤ 100000; decide), ⟨_, rfl, ⟨(fun i ρ c' => c = c' ∧ ∃ y, ρ = [some (.int a), some (.int b), y]), ⟨rfl, none, rfl⟩, fun i p ρ' c' hi hP => ?_, fun ρ' c' hP => ?_⟩⟩⟩)))))))
  · obtain ⟨rfl, y, rfl⟩ := hP
    obtain ⟨j, hj, rfl⟩ : ∃ j : Int, (1 ≤ j ∧ j ≤ 10 ^ 12) ∧ p = .int j := by
      have hi2 : i < 2 := (List.getElem?_eq_some_iff.mp hi).1
      have e : i = 0 ∨ i = 1 := by omega
      rcases e with rfl | rfl
      · injection hi with hi; exact ⟨a, ⟨h1, h2⟩, hi.symm⟩
      · injection hi with hi; exact ⟨b, ⟨h3, h4⟩, hi.symm⟩
    refine gw_name ?_
    -- statement 2
    refine sw_if (tw_not (tw_B (ew_call (aw_cons (ew_var rfl (aw_cons (ew_int (aw_cons (ew_int (aw_nil ⟨_, _, _, rfl, ⟨_, rfl, ⟨fun hx1 => ?_, fun hx1 => ?_⟩⟩⟩))))))))))
    · try simp only [decide_eq_true_eq, decide_eq_false_iff_not, Bool.or_eq_true, Bool.and_eq_true, Bool.or_eq_false_iff, Bool.and_eq_false_iff, Bool.not_eq_true', Bool.not_eq_false', Bool.not_true, Bool.not_false, Int.not_lt, Int.not_le] at hx1
      -- statement 3
      exact False.elim (by first | omega | (simp_all; done) | (simp_all; omega))
    · try simp only [decide_eq_true_eq, decide_eq_false_iff_not, Bool.or_eq_true, Bool.and_eq_true, Bool.or_eq_false_iff, Bool.and_eq_false_iff, Bool.not_eq_true', Bool.not_eq_false', Bool.not_true, Bool.not_false, Int.not_lt, Int.not_le] at hx1
      refine sw_next ?_
      exact ⟨rfl, _, rfl⟩
  · obtain ⟨rfl, y, rfl⟩ := hP
    first | exact .inl hQ | exact rt_is hQ (by simp) | exact rt_is hQ (by first | rfl | (congr 1 <;> simp; done))

theorem last_at {n : Int} (h : 1 ≤ n) : atI ((partsI n).map P.int) (-1) = some (.int (lastI n)) := by
  unfold partsI lastI
  have hne := Gold.parts_ne (n := n) (by omega)
  have hl : 0 < (Gold.parts n).length := List.length_pos_iff.mpr hne
  refine atI_neg (d := 1) (by decide) (by rw [List.length_map]; omega) ?_
  rw [List.length_map, List.getElem?_map, List.getElem?_eq_getElem (by omega)]
  show some (P.int _) = some (P.int _)
  congr 2
  rw [← List.getLast_eq_getElem hne, List.getLastD_eq_getLast?, List.getLast?_eq_some_getLast hne]
  rfl

abbrev N_double_wins : List Str := ["size", "bound"]
theorem sc_double_wins : FnScope N_double_wins ["size", "bound"] (defScope s_double_wins) := ⟨rfl, rfl, rfl, by decide +kernel, rfl, by decide +kernel, by decide +kernel⟩
set_option maxHeartbeats 4000000 in
theorem ok_double_wins (G : GF K mg) (c_check_double : Cl P₀ w K mg base 3 "check_double" S_check_double) (c_parts_of : Cl P₀ w K mg base 2 "parts_of" S_parts_of) : Cl P₀ w K mg base 4 "double_wins" S_double_wins := by
  refine pfn G.d_double_wins sc_double_wins (fun _ _ _ _ _ _ us hl => match us, hl with | [_, _], _ => rfl) (fun qs c Q h => ?_) (fun f cdv A outer s H E hr => ?_)
  · obtain ⟨a, b, rfl, ⟨h1, h2, h3, h4⟩, hQ⟩ := h; rfl
  have hu := hr.units
  refine ⟨_, (pss_cons (ps_expr (pe_cl c_check_double ⟨rfl, rfl, rfl, rfl, rfl⟩ hr (by omega) rfl (pa_cons (pv 0) (pa_cons (pv 1) pa_nil)))) (pss_one (ps_ret (pe_cmpR op_le (pe_ix (ix_tup' (K := K) rfl) (pe_cl c_parts_of ⟨rfl, rfl, rfl, rfl, rfl⟩ hr (by omega) rfl (pa_cons (pv 0) pa_nil)) (pe_un un_neg pe_int) (fun _ _ => rfl)) (pv 1) (nomark _))))), fun qs c Q hS hb => ?_⟩
  obtain ⟨a, b, rfl, ⟨h1, h2, h3, h4⟩, hQ⟩ := hS
  -- statement 1
  refine sw_seq (sw_drop (ew_call (aw_cons (ew_var rfl (aw_cons (ew_var rfl (aw_nil ⟨_, _, rfl, ⟨h1, h2, h3, h4⟩, ?_⟩)))))))
  -- statement 2
  refine sw_ret (ew_opB (ew_ixT (ew_call (aw_cons (ew_var rfl (aw_nil ⟨_, rfl, (by walk_at "pl"), (ew_un (ew_int ⟨_, rfl, ⟨_, _, _, rfl, rfl, (last_at h1), ⟨_, rfl, (ew_var rfl ⟨_, rfl, ?_⟩)⟩⟩⟩))⟩))))))
  first | exact .inl hQ | exact rt_is hQ (by simp) | exact rt_is hQ (by first | rfl | (congr 1 <;> simp; done))

abbrev N_double_take : List Str := ["size", "bound", "least"]
theorem sc_double_take : FnScope N_double_take ["size", "bound"] (defScope s_double_take) := ⟨rfl, rfl, rfl, by decide +kernel, rfl, by decide +kernel, by decide +kernel⟩
set_option maxHeartbeats 4000000 in
theorem ok_double_take (G : GF K mg) (c_check_double : Cl P₀ w K mg base 3 "check_double" S_check_double) (c_parts_of : Cl P₀ w K mg base 2 "parts_of" S_parts_of) : Cl P₀ w K mg base 4 "double_take" S_double_take := by
  refine pfn G.d_double_take sc_double_take (fun _ _ _ _ _ _ us hl => match us, hl with | [_, _], _ => rfl) (fun qs c Q h => ?_) (fun f cdv A outer s H E hr => ?_)
  · obtain ⟨a, b, rfl, ⟨h1, h2, h3, h4⟩, hQ⟩ := h; rfl
  have hu := hr.units
  refine ⟨_, (pss_cons (ps_expr (pe_cl c_check_double ⟨rfl, rfl, rfl, rfl, rfl⟩ hr (by omega) rfl (pa_cons (pv 0) (pa_cons (pv 1) pa_nil)))) (pss_cons (ps_set (i := 2) sc_double_take.nd rfl (Or.inl rfl) (pe_ix (ix_tup' (K := K) rfl) (pe_cl c_parts_of ⟨rfl, rfl, rfl, rfl, rfl⟩ hr (by omega) rfl (pa_cons (pv 0) pa_nil)) (pe_un un_neg pe_int) (fun _ _ => rfl))) (pss_one (ps_ret (pe_ifExp (pt_cmpR op_le (pv 2) (pv 1) (nomark _)) (pv 2) pe_non))))), fun qs c Q hS hb => ?_⟩
  obtain ⟨a, b, rfl, ⟨h1, h2, h3, h4⟩, hQ⟩ := hS
  -- statement 1
  refine sw_seq (sw_drop (ew_call (aw_cons (ew_var rfl (aw_cons (ew_var rfl (aw_nil ⟨_, _, rfl, ⟨h1, h2, h3, h4⟩, ?_⟩)))))))
  -- statement 2
  refine sw_seq (sw_set (ew_ixT (ew_call (aw_cons (ew_var rfl (aw_nil ⟨_, rfl, (by walk_at "pl"), (ew_un (ew_int ⟨_, rfl, ⟨_, _, _, rfl, rfl, (last_at h1), ?_⟩⟩))⟩))))))
  -- statement 3
  refine sw_ret (ew_if' (tw_test (ew_opB (ew_var rfl ⟨_, rfl, (ew_var rfl ⟨_, rfl, ⟨_, rfl, ⟨rfl, rfl⟩⟩⟩)⟩))) (fun hix3 => (ew_var rfl ⟨rfl, rfl⟩)) (fun hix3 => (ew_non ⟨rfl, rfl⟩)) ?_)
  first | exact .inl hQ | exact rt_is hQ (by simp) | exact rt_is hQ (by first | rfl | (congr 1 <;> simp; done))

theorem heaps_ok {hs : List Int} (h : HsOk hs) : heapsB hs = true := by
  unfold heapsB
  rw [Bool.and_eq_true, decide_eq_true_eq, List.all_eq_true]
  refine ⟨h.1, fun x hx => ?_⟩
  have := h.2 x hx
  rw [decide_eq_true this.1, decide_eq_true this.2]; rfl

abbrev N_check_several : List Str := ["heaps", "many"]
theorem sc_check_several : FnScope N_check_several ["heaps", "many"] (defScope s_check_several) := ⟨rfl, rfl, rfl, by decide +kernel, rfl, by decide +kernel, by decide +kernel⟩
set_option maxHeartbeats 4000000 in
theorem ok_check_several (G : GF K mg) (c_are_heaps : Cl P₀ w K mg base 3 "are_heaps" S_are_heaps) (c_is_between : Cl P₀ w K mg base 2 "is_between" S_is_between) : Cl P₀ w K mg base 4 "check_several" S_check_several := by
  refine pfn G.d_check_several sc_check_several (fun _ _ _ _ _ _ us hl => match us, hl with | [_, _], _ => rfl) (fun qs c Q h => ?_) (fun f cdv A outer s H E hr => ?_)
  · obtain ⟨hs, m, rfl, ⟨hh, hm1, hm2⟩, hQ⟩ := h; rfl
  have hu := hr.units
  refine ⟨_, (pss_cons (ps_if (pt_not (pt_val (pe_cl c_are_heaps ⟨rfl, rfl, rfl, rfl, rfl⟩ hr (by omega) rfl (pa_cons (pv 0) pa_nil)))) (pss_one ps_dead) pss_nil) (pss_one (ps_if (pt_not (pt_val (pe_cl c_is_between ⟨rfl, rfl, rfl, rfl, rfl⟩ hr (by omega) rfl (pa_cons (pv 1) (pa_cons pe_int (pa_cons (pe_gint G.c_MOST_TAKEN rfl) pa_nil)))))) (pss_one ps_dead) pss_nil))), fun qs c Q hS hb => ?_⟩
  obtain ⟨hs, m, rfl, ⟨hh, hm1, hm2⟩, hQ⟩ := hS
  -- statement 1
  refine sw_seq (sw_if (tw_not (tw_B (ew_call (aw_cons (ew_var rfl (aw_nil ⟨_, rfl, (by have := hh.1; omega), ⟨_, rfl, ⟨fun hx1 => ?_, fun hx1 => ?_⟩⟩⟩)))))))
  · have hok := heaps_ok hh
    have hbad := hx1
    -- statement 2
    exact False.elim (by rw [hok] at hbad; simp at hbad)
  · try simp only [decide_eq_true_eq, decide_eq_false_iff_not, Bool.or_eq_true, Bool.and_eq_true, Bool.or_eq_false_iff, Bool.and_eq_false_iff, Bool.not_eq_true', Bool.not_eq_false', Bool.not_true, Bool.not_false, Int.not_lt, Int.not_le] at hx1
    refine sw_next ?_
    -- statement 3
    refine sw_if (tw_not (tw_B (ew_call (aw_cons (ew_var rfl (aw_cons (ew_int (aw_cons (ew_int (aw_nil ⟨_, _, _, rfl, ⟨_, rfl, ⟨fun hx3 => ?_, fun hx3 => ?_⟩⟩⟩))))))))))
    · try simp only [decide_eq_true_eq, decide_eq_false_iff_not, Bool.or_eq_true, Bool.and_eq_true, Bool.or_eq_false_iff, Bool.and_eq_false_iff, Bool.not_eq_true', Bool.not_eq_false', Bool.not_true, Bool.not_false, Int.not_lt, Int.not_le] at hx3
      -- statement 4
      exact False.elim (by first | omega | (simp_all; done) | (simp_all; omega))
    · try simp only [decide_eq_true_eq, decide_eq_false_iff_not, Bool.or_eq_true, Bool.and_eq_true, Bool.or_eq_false_iff, Bool.and_eq_false_iff, Bool.not_eq_true', Bool.not_eq_false', Bool.not_true, Bool.not_false, Int.not_lt, Int.not_le] at hx3
      refine sw_next ?_
      first | exact .inl hQ | exact rt_is hQ (by simp) | exact rt_is hQ (by first | rfl | (congr 1 <;> simp; done))
end K22

set_option Elab.async false
set_option linter.all false
set_option maxRecDepth 100000
local macro_rules | `(tactic| walk_at "pl") => `(tactic| first | assumption | rfl | omega | exact PL.get_app | exact PL.get_appS | exact ⟨by omega, by omega⟩ | exact Or.inl ⟨by omega, by omega⟩ | exact Or.inr ⟨by omega, by omega⟩ | (show (0 : Int) < _; omega) | decide | (simp only [List.length_cons, List.length_nil]; omega) | (refine ⟨?_, ?_⟩ <;> first | assumption | omega))
local macro_rules | `(tactic| walk_at "pl end") => `(tactic| first | exact .inl hQ | exact rt_is hQ (by simp))
local macro_rules | `(tactic| walk_at "pl dead") => `(tactic| first | omega | (intros; simp_all; done) | (intros; simp_all; omega))
namespace K22
open PySem PySem.Spec PyProof.Rows L2 Evl PL
variable {K : PySem.W.Frag} {P₀ : Program} {w : World} {mg : Str → Option Value} {base : Heap}
theorem pw_400 {k : Nat} {x : Int} (h : Moore.pw k ≤ x) (hx : x ≤ 400) : k ≤ 8 := by
  rcases Nat.lt_or_ge 8 k with c | c
  · have h1 := Moore.pw_mono (show 9 ≤ k by omega)
    have e : Moore.pw 9 = 512 := by decide
    omega
  · exact c
theorem max_400 {hs : List Int} (h : HsOk hs) {m : Int} (hm : m ∈ 0 :: hs) : m ≤ 400 := by
  rcases List.mem_cons.mp hm with e | e
  · omega
  · exact (h.2 m e).2
theorem cast_mod {n : Nat} {m : Int} (h : 0 ≤ m) : ((n : Int) % (m + 1)) = ((n % (m.toNat + 1) : Nat) : Int) := by
  rw [Int.natCast_emod]
  congr 1
  omega
theorem cnt_len (k : Nat) (hs : List Int) : (((hs.filter fun x => decide (x / Moore.pw k % 2 = 1)).map P.int).length : Int) = (Moore.cnt (Moore.pw k) hs : Int) := by
  rw [List.length_map, ← Moore.cnt_filter]; rfl
theorem out_no {k : Nat} {m : Int} {hs : List Int} (hm : 1 ≤ m) (hk : k ≤ 8) (h : (((hs.filter fun x => decide (x / Moore.pw k % 2 = 1)).map P.int).length : Int) % (m + 1) > 0) : outI m hs = false := by
  rw [cnt_len, cast_mod (by omega)] at h
  unfold outI
  cases e : Moore.out m.toNat hs with
  | false => rfl
  | true =>
    exfalso
    unfold Moore.out at e
    rw [List.all_eq_true] at e
    have := of_decide_eq_true (e k (List.mem_range.mpr (by omega)))
    omega
theorem out_yes {k : Nat} {m mx : Int} {hs : List Int} (hh : HsOk hs) (hm : 1 ≤ m) (h : ∀ j, j < k → Moore.cnt (Moore.pw j) hs % (m.toNat + 1) = 0) (hx : ∀ y, y ∈ 0 :: hs → y ≤ mx) (hk : mx < Moore.pw k) : outI m hs = true := by
  unfold outI
  refine Moore.out_all fun j => ?_
  by_cases c : j < k
  · exact h j c
  · rw [Moore.cnt_high (k := k) (fun x hx' => (hh.2 x hx').1) (fun x hx' => by have := hx x (List.mem_cons_of_mem _ hx'); omega) (by omega)]
    exact Nat.zero_mod _

abbrev N_comes_out : List Str := ["heaps", "many", "place", "rest", "size"]
theorem sc_comes_out : FnScope N_comes_out ["heaps", "many"] (defScope s_comes_out) := ⟨rfl, rfl, rfl, by decide +kernel, rfl, by decide +kernel, by decide +kernel⟩
set_option maxHeartbeats 4000000 in
theorem ok_comes_out (G : GF K mg) : Cl P₀ w K mg base 1 "comes_out" S_comes_out := by
  refine pfn G.d_comes_out sc_comes_out (fun _ _ _ _ _ _ us hl => match us, hl with | [_, _], _ => rfl) (fun qs c Q h => ?_) (fun f cdv A outer s H E hr => ?_)
  · obtain ⟨hs, m, rfl, ⟨hh, hm1, hm2⟩, hQ⟩ := h; rfl
  have hu := hr.units
  refine ⟨_, (pss_cons (ps_asg (pe_tup (pa_cons pe_int (pa_cons (pe_callTy (call_list_of' (K := K) rfl) rfl G.b_list boot_list (pa_cons (pv 0) pa_nil)) pa_nil))) (pg_tup' (K := K) rfl rfl (pgs_cons (pg_name (i := 2) sc_comes_out.nd rfl (Or.inr rfl)) (pgs_cons (pg_name (i := 3) sc_comes_out.nd rfl (Or.inl rfl)) pgs_nil)))) (pss_cons (ps_while PassesOwn.never (pt_cmpR op_le (pv 2) (pe_callB (cr_max' (K := K) rfl rfl) rfl G.b_max boot_max (pa_cons (pe_op op_cat (pe_lst (pa_cons pe_int pa_nil)) (pv 3)) pa_nil)) (nomark _)) (pss_cons (ps_if (pt_cmpR op_gt (pe_op op_mod (pe_callB (call_len_seq' (K := K) rfl) rfl G.b_len boot_len (pa_cons (pe_lc (own := [("size", 4)]) rfl sc_comes_out.nd (pi_list' (K := K) rfl (pv 3)) (blkOk_by (N := N_comes_out) (sc := defScope s_comes_out) (by decide +kernel)) (fun _ _ _ _ _ => (pg_name (i := 4) sc_comes_out.nd rfl (by first | exact Or.inl rfl | exact Or.inr rfl))) (fun _ _ _ _ _ => (pts_one (pt_cmpR op_eq (pe_op op_mod (pe_op op_fdiv (pv 4) (pv 2)) pe_int) pe_int (nomark _)))) (fun _ _ _ _ _ => (pv 4))) pa_nil)) (pe_op op_add (pv 1) pe_int)) pe_int (nomark _)) (pss_one (ps_ret pe_bl)) pss_nil) (pss_one (ps_set (i := 2) sc_comes_out.nd rfl (Or.inr rfl) (pe_op op_mul pe_int (pv 2)))))) (pss_one (ps_ret pe_bl)))), fun qs c Q hS hb => ?_⟩
  obtain ⟨hs, m, rfl, ⟨hh, hm1, hm2⟩, hQ⟩ := hS
  -- statement 1
  refine sw_seq (sw_asg (ew_tup (aw_cons (ew_int (aw_cons (ew_listOf (ew_var rfl ⟨_, (.t _), (aw_nil ⟨(by show 2 ≤ 100000; decide), (gw_tup rfl (gws_cons (gw_name (gws_cons (gw_name (gws_nil ?_))))))⟩)⟩)))))))
  -- statement 2
  refine sw_seq (sw_while (fun (μ : Nat) ρ c' => c = c' ∧ ∃ (k : Nat) (y : Option P), ρ = [some (.tup (hs.map P.int)), some (.int m), some (.int (Moore.pw k)), some (.lst (hs.map P.int)), y] ∧ (∀ j, j < k → Moore.cnt (Moore.pw j) hs % (m.toNat + 1) = 0) ∧ k ≤ 9 ∧ μ = 10 - k) 10 ⟨rfl, 0, none, rfl, fun j h => absurd h (Nat.not_lt_zero j), by decide, rfl⟩ (fun μ ρ' c' hW => ?_))
  obtain ⟨rfl, k, y, rfl, hj, hk9, hμ⟩ := hW
  refine (tw_test (ew_opB (ew_var rfl ⟨_, rfl, (ew_maxL (ew_cat (ew_lst (aw_cons (ew_int (aw_nil ⟨(by show 1 ≤ 100000; decide), (ew_var rfl ⟨_, _, (.lst _), (.lst _), (by have := hh.1; simp only [List.length_cons, List.length_nil, List.length_map]; omega), ⟨(0 :: hs), (LstOf.of (.lst _) rfl), (Nat.succ_pos _), fun mx2 hmx3 hmx4 => ⟨_, rfl, ⟨_, rfl, ⟨fun hx1 => ⟨fun ρ2 c2 => ∃ μ', μ' < μ ∧ ((fun (μ : Nat) ρ c' => c = c' ∧ ∃ (k : Nat) (y : Option P), ρ = [some (.tup (hs.map P.int)), some (.int m), some (.int (Moore.pw k)), some (.lst (hs.map P.int)), y] ∧ (∀ j, j < k → Moore.cnt (Moore.pw j) hs % (m.toNat + 1) = 0) ∧ k ≤ 9 ∧ μ = 10 - k)) μ' ρ2 c2, fun _ _ h => h, ?_⟩, fun hx1 => ?_⟩⟩⟩⟩⟩)⟩))))))⟩)))
  · simp only [decide_eq_true_eq] at hx1
    have hk := pw_400 hx1 (max_400 hh (by assumption))
    have hpp := Moore.pw_pos k
    have hp4 : Moore.pw k < 1073741824 := by
      have := Moore.pw_mono hk
      have e : Moore.pw 8 = 256 := by decide
      omega
    -- statement 3
    refine sw_seq (sw_if (tw_test (ew_opB (ew_opC (ew_len (ew_lcT P.int hs (fun x => decide (x / Moore.pw k % 2 = 1)) P.int (gc_name (by decide)) (iw_list (ew_var rfl ⟨_, rfl, ⟨rfl, rfl⟩⟩)) (by have := hh.1; omega) (fun x hx => gw_name ⟨rfl, (tw_test (ew_eqI (ew_opC (ew_opC (ew_var rfl ⟨_, rfl, (ew_var rfl ⟨_, rfl, ⟨hpp, hp4⟩, ⟨_, rfl, (ew_int ⟨_, rfl, (by decide), ⟨_, rfl, (ew_int ⟨_, rfl, ⟨_, rfl, ⟨rfl, rfl⟩⟩⟩)⟩⟩)⟩⟩)⟩))))), fun hf => (ew_var rfl ⟨rfl, rfl⟩)⟩) ⟨_, (.l (.lst _)), ⟨_, rfl, (ew_opI (ew_var rfl ⟨_, rfl, (ew_int ⟨_, rfl, ⟨_, rfl, (show (0 : Int) < m + 1 by omega), ⟨_, rfl, (ew_int ⟨_, rfl, ⟨_, rfl, ⟨fun hx5 => ?_, fun hx5 => ?_⟩⟩⟩)⟩⟩⟩)⟩))⟩⟩))))))
    · simp only [gt_iff_lt, decide_eq_true_eq] at hx5
      have hno := out_no hm1 hk hx5
      -- statement 4
      refine sw_ret (ew_bl ?_)
      exact rt_is hQ (by rw [hno])
    · have hcnt : Moore.cnt (Moore.pw k) hs % (m.toNat + 1) = 0 := by
        simp only [gt_iff_lt, decide_eq_false_iff_not] at hx5
        rw [cnt_len, cast_mod (by omega)] at hx5
        omega
      refine sw_next ?_
      -- statement 5
      refine sw_set (ew_opC (ew_int ⟨_, rfl, (ew_var rfl ⟨_, rfl, (Or.inl ⟨by decide, by decide⟩), ?_⟩)⟩))
      refine ⟨10 - (k + 1), by omega, rfl, k + 1, _, rfl, fun j hj2 => ?_, by omega, rfl⟩
      rcases Nat.lt_or_eq_of_le (Nat.le_of_lt_succ hj2) with z | z
      · exact hj j z
      · subst z; exact hcnt
  · simp only [decide_eq_false_iff_not, Int.not_le] at hx1
    have hend := hx1
    -- statement 6
    refine sw_ret (ew_bl ?_)
    exact rt_is hQ (by rw [out_yes hh hm1 hj (by assumption) hend])

abbrev N_several_win : List Str := ["heaps", "many"]
theorem sc_several_win : FnScope N_several_win ["heaps", "many"] (defScope s_several_win) := ⟨rfl, rfl, rfl, by decide +kernel, rfl, by decide +kernel, by decide +kernel⟩
set_option maxHeartbeats 4000000 in
theorem ok_several_win (G : GF K mg) (c_check_several : Cl P₀ w K mg base 4 "check_several" S_check_several) (c_comes_out : Cl P₀ w K mg base 1 "comes_out" S_comes_out) : Cl P₀ w K mg base 5 "several_win" S_several_win := by
  refine pfn G.d_several_win sc_several_win (fun _ _ _ _ _ _ us hl => match us, hl with | [_, _], _ => rfl) (fun qs c Q h => ?_) (fun f cdv A outer s H E hr => ?_)
  · obtain ⟨hs, m, rfl, ⟨hh, hm1, hm2⟩, hQ⟩ := h; rfl
  have hu := hr.units
  refine ⟨_, (pss_cons (ps_expr (pe_cl c_check_several ⟨rfl, rfl, rfl, rfl, rfl⟩ hr (by omega) rfl (pa_cons (pv 0) (pa_cons (pv 1) pa_nil)))) (pss_one (ps_ret (pe_not (pe_cl c_comes_out ⟨rfl, rfl, rfl, rfl, rfl⟩ hr (by omega) rfl (pa_cons (pv 0) (pa_cons (pv 1) pa_nil))))))), fun qs c Q hS hb => ?_⟩
  obtain ⟨hs, m, rfl, ⟨hh, hm1, hm2⟩, hQ⟩ := hS
  -- statement 1
  refine sw_seq (sw_drop (ew_call (aw_cons (ew_var rfl (aw_cons (ew_var rfl (aw_nil ⟨_, _, rfl, ⟨hh, hm1, hm2⟩, ?_⟩)))))))
  -- statement 2
  refine sw_ret (ew_notV (ew_call (aw_cons (ew_var rfl (aw_cons (ew_var rfl (aw_nil ⟨_, _, rfl, ⟨hh, hm1, hm2⟩, ⟨_, rfl, ?_⟩⟩)))))))
  first | exact .inl hQ | exact rt_is hQ (by simp) | exact rt_is hQ (by first | rfl | (congr 1 <;> simp; done))

abbrev N_high_place : List Str := ["heaps", "place"]
theorem sc_high_place : FnScope N_high_place ["heaps"] (defScope s_high_place) := ⟨rfl, rfl, rfl, by decide +kernel, rfl, by decide +kernel, by decide +kernel⟩
set_option maxHeartbeats 4000000 in
theorem ok_high_place (G : GF K mg) : Cl P₀ w K mg base 1 "high_place" S_high_place := by
  refine pfn G.d_high_place sc_high_place (fun _ _ _ _ _ _ us hl => match us, hl with | [_], _ => rfl) (fun qs c Q h => ?_) (fun f cdv A outer s H E hr => ?_)
  · obtain ⟨hs, rfl, hh, hQ⟩ := h; rfl
  have hu := hr.units
  refine ⟨_, (pss_cons (ps_set (i := 1) sc_high_place.nd rfl (Or.inl rfl) pe_int) (pss_cons (ps_while PassesOwn.never (pt_cmpR op_le (pe_op op_mul pe_int (pv 1)) (pe_callB (cr_max' (K := K) rfl rfl) rfl G.b_max boot_max (pa_cons (pe_op op_cat (pe_lst (pa_cons pe_int pa_nil)) (pe_callTy (call_list_of' (K := K) rfl) rfl G.b_list boot_list (pa_cons (pv 0) pa_nil))) pa_nil)) (nomark _)) (pss_one (ps_set (i := 1) sc_high_place.nd rfl (Or.inl rfl) (pe_op op_mul pe_int (pv 1))))) (pss_one (ps_ret (pv 1))))), fun qs c Q hS hb => ?_⟩
  obtain ⟨hs, rfl, hh, hQ⟩ := hS
  -- statement 1
  refine sw_seq (sw_set (ew_int ?_))
  -- statement 2
  refine sw_seq (sw_while (fun (μ : Nat) ρ c' => c = c' ∧ ∃ (k : Nat), ρ = [some (.tup (hs.map P.int)), some (.int (Moore.pw k))] ∧ k ≤ 9 ∧ μ = 10 - k) 10 ⟨rfl, 0, rfl, by decide, rfl⟩ (fun μ ρ' c' hW => ?_))
  obtain ⟨rfl, k, rfl, hk9, hμ⟩ := hW
  refine (tw_test (ew_opB (ew_opC (ew_int ⟨_, rfl, (ew_var rfl ⟨_, rfl, (Or.inl ⟨by decide, by decide⟩), ⟨_, rfl, (ew_maxL (ew_cat (ew_lst (aw_cons (ew_int (aw_nil ⟨(by show 1 ≤ 100000; decide), (ew_listOf (ew_var rfl ⟨_, (.t _), ⟨_, _, (.lst _), (.lst _), (by have := hh.1; simp only [List.length_cons, List.length_nil, List.length_map]; omega), ⟨(0 :: hs), (LstOf.of (.lst _) rfl), (Nat.succ_pos _), fun mx2 hmx3 hmx4 => ⟨_, rfl, ⟨_, rfl, ⟨fun hx1 => ⟨fun ρ2 c2 => ∃ μ', μ' < μ ∧ ((fun (μ : Nat) ρ c' => c = c' ∧ ∃ (k : Nat), ρ = [some (.tup (hs.map P.int)), some (.int (Moore.pw k))] ∧ k ≤ 9 ∧ μ = 10 - k)) μ' ρ2 c2, fun _ _ h => h, ?_⟩, fun hx1 => ?_⟩⟩⟩⟩⟩⟩))⟩))))))⟩⟩)⟩))))
  · simp only [decide_eq_true_eq] at hx1
    have hk := pw_400 (k := k + 1) hx1 (max_400 hh (by assumption))
    -- statement 3
    refine sw_set (ew_opC (ew_int ⟨_, rfl, (ew_var rfl ⟨_, rfl, (Or.inl ⟨by decide, by decide⟩), ?_⟩)⟩))
    exact ⟨10 - (k + 1), by omega, rfl, k + 1, rfl, by omega, rfl⟩
  · simp only [decide_eq_false_iff_not, Int.not_le] at hx1
    have hend : _ < Moore.pw (k + 1) := hx1
    -- statement 4
    refine sw_ret (ew_var rfl ?_)
    refine .inl (hQ k hk9 fun x hx => ?_)
    have := hmx4 x (List.mem_cons_of_mem _ hx)
    omega
end K22

set_option Elab.async false
set_option linter.all false
set_option maxRecDepth 100000
local macro_rules | `(tactic| walk_at "pl") => `(tactic| first | assumption | rfl | omega | exact PL.get_app | exact PL.get_appS | exact ⟨by omega, by omega⟩ | exact Or.inl ⟨by omega, by omega⟩ | exact Or.inr ⟨by omega, by omega⟩ | (show (0 : Int) < _; omega) | decide | (simp only [List.length_cons, List.length_nil]; omega) | (refine ⟨?_, ?_⟩ <;> first | assumption | omega))
local macro_rules | `(tactic| walk_at "pl end") => `(tactic| first | exact .inl hQ | exact rt_is hQ (by simp))
local macro_rules | `(tactic| walk_at "pl dead") => `(tactic| first | omega | (intros; simp_all; done) | (intros; simp_all; omega))
namespace K22
open PySem PySem.Spec PyProof.Rows L2 Evl PL
variable {K : PySem.W.Frag} {P₀ : Program} {w : World} {mg : Str → Option Value} {base : Heap}
theorem told_is {hs : List Int} {m : Int} (hh : HsOk hs) : Moore.Told m.toNat hs (Moore.run m.toNat 9 (hs, [])).1 (Moore.run m.toNat 9 (hs, [])).2 :=
  Moore.told_of (fun x hx => (hh.2 x hx).1) fun x hx => by
    have h := (hh.2 x hx).2
    have e : Moore.pw 9 = 512 := by decide
    omega

abbrev N_several_to : List Str := ["heaps", "many"]
theorem sc_several_to : FnScope N_several_to ["heaps", "many"] (defScope s_several_to) := ⟨rfl, rfl, rfl, by decide +kernel, rfl, by decide +kernel, by decide +kernel⟩
set_option maxHeartbeats 4000000 in
theorem ok_several_to (G : GF K mg) (c_check_several : Cl P₀ w K mg base 4 "check_several" S_check_several) (c_comes_out : Cl P₀ w K mg base 1 "comes_out" S_comes_out) (c_to_come_out : Cl P₀ w K mg base 2 "to_come_out" S_to_come_out) : Cl P₀ w K mg base 5 "several_to" S_several_to := by
  refine pfn G.d_several_to sc_several_to (fun _ _ _ _ _ _ us hl => match us, hl with | [_, _], _ => rfl) (fun qs c Q h => ?_) (fun f cdv A outer s H E hr => ?_)
  · obtain ⟨hs, m, rfl, ⟨hh, hm1, hm2⟩, hQ⟩ := h; rfl
  have hu := hr.units
  refine ⟨_, (pss_cons (ps_expr (pe_cl c_check_several ⟨rfl, rfl, rfl, rfl, rfl⟩ hr (by omega) rfl (pa_cons (pv 0) (pa_cons (pv 1) pa_nil)))) (pss_one (ps_ret (pe_ifExp (pt_val (pe_cl c_comes_out ⟨rfl, rfl, rfl, rfl, rfl⟩ hr (by omega) rfl (pa_cons (pv 0) (pa_cons (pv 1) pa_nil)))) pe_non (pe_cl c_to_come_out ⟨rfl, rfl, rfl, rfl, rfl⟩ hr (by omega) rfl (pa_cons (pv 0) (pa_cons (pv 1) pa_nil))))))), fun qs c Q hS hb => ?_⟩
  obtain ⟨hs, m, rfl, ⟨hh, hm1, hm2⟩, hQ⟩ := hS
  -- statement 1
  refine sw_seq (sw_drop (ew_call (aw_cons (ew_var rfl (aw_cons (ew_var rfl (aw_nil ⟨_, _, rfl, ⟨hh, hm1, hm2⟩, ?_⟩)))))))
  -- statement 2
  refine sw_ret (ew_if (tw_B (ew_call (aw_cons (ew_var rfl (aw_cons (ew_var rfl (aw_nil ⟨_, _, rfl, ⟨hh, hm1, hm2⟩, ⟨_, rfl, ⟨fun hix2 => (ew_non ?_), fun hix2 => (ew_call (aw_cons (ew_var rfl (aw_cons (ew_var rfl (aw_nil ⟨_, _, rfl, ⟨hh, hm1, hm2⟩, fun td3 fr3 hT3 => ?_⟩))))))⟩⟩⟩))))))))
  · have h0 := hQ _ _ (told_is hh)
    rw [if_pos (by assumption)] at h0
    exact .inl h0
  · have hno : outI m hs = false := by assumption
    have h0 := hQ _ _ (by assumption)
    rw [if_neg (by rw [hno]; decide)] at h0
    exact .inl h0

theorem zip_ints : ∀ hs vs : List Int, zipP (hs.map P.int) (vs.map P.int) = (hs.zip vs).map pairI
  | [], _ => by simp [zipP]
  | _ :: _, [] => by simp [zipP]
  | h :: hs, v :: vs => by
    show P.tup [.int h, .int v] :: zipP (hs.map P.int) (vs.map P.int) = _
    rw [zip_ints hs vs]; rfl

theorem heaps_of {hs : List Int} (h : heapsB hs = true) : HsOk hs := by
  unfold heapsB at h
  rw [Bool.and_eq_true, decide_eq_true_eq, List.all_eq_true] at h
  refine ⟨h.1, fun x hx => ?_⟩
  have := h.2 x hx
  rw [Bool.and_eq_true, decide_eq_true_eq, decide_eq_true_eq] at this
  exact this
theorem at_get {l : List Int} {i : Nat} {x : Int} (h : l[i]? = some x) : Moore.at_ l i = x := by
  unfold Moore.at_
  rw [List.getD_eq_getElem?_getD, h]; rfl
theorem zip_any {hs vs : List Int} (hl : vs.length = hs.length) : (((hs.zip vs).map fun z => decide (z.2 > z.1)).any id) = !(List.range hs.length).all fun i => decide (Moore.at_ vs i ≤ Moore.at_ hs i) := by
  cases e : (List.range hs.length).all fun i => decide (Moore.at_ vs i ≤ Moore.at_ hs i) with
  | true =>
    rw [List.all_eq_true] at e
    rw [List.any_map, Bool.not_true, List.any_eq_false]
    intro z hz hb
    obtain ⟨i, hi⟩ := List.getElem?_of_mem hz
    rw [List.getElem?_zip_eq_some] at hi
    have hlt : i < hs.length := (List.getElem?_eq_some_iff.mp hi.1).1
    have h1 := of_decide_eq_true (e i (List.mem_range.mpr hlt))
    rw [at_get hi.1, at_get hi.2] at h1
    have h2 : z.2 > z.1 := of_decide_eq_true hb
    omega
  | false =>
    rw [List.all_eq_false] at e
    obtain ⟨i, hi, hb⟩ := e
    have hlt := List.mem_range.mp hi
    rw [List.any_map, Bool.not_false, List.any_eq_true]
    have g1 : hs[i]? = some hs[i] := List.getElem?_eq_getElem hlt
    have g2 : vs[i]? = some vs[i] := List.getElem?_eq_getElem (by omega)
    refine ⟨(hs[i], vs[i]), List.mem_of_getElem? (i := i) (List.getElem?_zip_eq_some.mpr ⟨g1, g2⟩), ?_⟩
    rw [decide_eq_true_eq, at_get g1, at_get g2] at hb
    exact decide_eq_true (show vs[i] > hs[i] by omega)
theorem less_len {hs vs : List Int} : ((((List.range hs.length).filter fun i : Nat => decide (vs.getD (0 + (i : Int)).toNat 0 < hs.getD (0 + (i : Int)).toNat 0)).map fun i : Nat => P.int (0 + (i : Int))).length : Int) = (Moore.lessN hs vs : Int) := by
  rw [List.length_map]
  unfold Moore.lessN Moore.at_
  congr 2
  refine List.filter_congr fun i _ => ?_
  have e : (0 + (i : Int)).toNat = i := by omega
  rw [e]

abbrev N_shows_several_to : List Str := ["heaps", "many", "value", "taken", "here", "there", "at"]
theorem sc_shows_several_to : FnScope N_shows_several_to ["heaps", "many", "value"] (defScope s_shows_several_to) := ⟨rfl, rfl, rfl, by decide +kernel, rfl, by decide +kernel, by decide +kernel⟩
set_option maxHeartbeats 4000000 in
theorem ok_shows_several_to (G : GF K mg) (c_check_several : Cl P₀ w K mg base 4 "check_several" S_check_several) (c_comes_out : Cl P₀ w K mg base 1 "comes_out" S_comes_out) (c_are_heaps : Cl P₀ w K mg base 3 "are_heaps" S_are_heaps) : Cl P₀ w K mg base 5 "shows_several_to" S_shows_several_to := by
  refine pfn G.d_shows_several_to sc_shows_several_to (fun _ _ _ _ _ _ us hl => match us, hl with | [_, _, _], _ => rfl) (fun qs c Q h => ?_) (fun f cdv A outer s H E hr => ?_)
  · obtain ⟨hs, m, v, rfl, ⟨hh, hm1, hm2⟩, hv⟩ := h; rfl
  have hu := hr.units
  refine ⟨_, (pss_cons (ps_expr (pe_cl c_check_several ⟨rfl, rfl, rfl, rfl, rfl⟩ hr (by omega) rfl (pa_cons (pv 0) (pa_cons (pv 1) pa_nil)))) (pss_cons (ps_if (pt_cmpR op_isN (pv 2) pe_non (nomark _)) (pss_one (ps_ret (pe_cl c_comes_out ⟨rfl, rfl, rfl, rfl, rfl⟩ hr (by omega) rfl (pa_cons (pv 0) (pa_cons (pv 1) pa_nil))))) pss_nil) (pss_cons (ps_if (PW.pt (pw_or (pt_not (pt_val (pe_cl c_are_heaps ⟨rfl, rfl, rfl, rfl, rfl⟩ hr (by omega) rfl (pa_cons (pv 2) pa_nil)))) (pw_or1 (pt_cmpR op_ne (pe_callB (call_len_seq' (K := K) rfl) rfl G.b_len boot_len (pa_cons (pv 2) pa_nil)) (pe_callB (call_len_seq' (K := K) rfl) rfl G.b_len boot_len (pa_cons (pv 0) pa_nil)) (nomark _))))) (pss_one (ps_ret pe_bl)) pss_nil) (pss_cons (ps_if (pt_val (pe_callB (cr_any' (K := K) rfl rfl) rfl G.b_any boot_any (pa_cons (pe_lc (own := [("here", 4), ("there", 5)]) rfl sc_shows_several_to.nd (pi_zip2 (K := K) false false rfl rfl G.b_zip (pa_cons (pv 0) (pa_cons (pv 2) pa_nil))) (blkOk_by (N := N_shows_several_to) (sc := defScope s_shows_several_to) (by decide +kernel)) (fun _ _ _ _ _ => (pg_tup' (K := K) (n := 2) rfl rfl (pgs_cons (pg_name (i := 4) sc_shows_several_to.nd rfl (by first | exact Or.inl rfl | exact Or.inr rfl)) (pgs_cons (pg_name (i := 5) sc_shows_several_to.nd rfl (by first | exact Or.inl rfl | exact Or.inr rfl)) pgs_nil)))) (fun _ _ _ _ _ => pts_nil) (fun _ _ _ _ _ => (pe_cmpR op_gt (pv 5) (pv 4) (nomark _)))) pa_nil))) (pss_one (ps_ret pe_bl)) pss_nil) (pss_cons (ps_set (i := 3) sc_shows_several_to.nd rfl (Or.inl rfl) (pe_callB (call_len_seq' (K := K) rfl) rfl G.b_len boot_len (pa_cons (pe_lc (own := [("at", 6)]) rfl sc_shows_several_to.nd (pi_range1 rfl G.b_range (pa_cons (pe_callB (call_len_seq' (K := K) rfl) rfl G.b_len boot_len (pa_cons (pv 0) pa_nil)) pa_nil)) (blkOk_by (N := N_shows_several_to) (sc := defScope s_shows_several_to) (by decide +kernel)) (fun _ _ _ _ _ => (pg_name (i := 6) sc_shows_several_to.nd rfl (by first | exact Or.inl rfl | exact Or.inr rfl))) (fun _ _ _ _ _ => (pts_one (pt_cmpR op_lt (pe_ix (ix_tup' (K := K) rfl) (pv 2) (pv 6) (fun _ _ => rfl)) (pe_ix (ix_tup' (K := K) rfl) (pv 0) (pv 6) (fun _ _ => rfl)) (nomark _)))) (fun _ _ _ _ _ => (pv 6))) pa_nil))) (pss_one (ps_ret (pe_and (pe_chain op_le op_le pe_int (pv 3) (pv 1)) (pe_one (pe_cl c_comes_out ⟨rfl, rfl, rfl, rfl, rfl⟩ hr (by omega) rfl (pa_cons (pv 2) (pa_cons (pv 1) pa_nil)))))))))))), fun qs c Q hS hb => ?_⟩
  obtain ⟨hs, m, v, rfl, ⟨hh, hm1, hm2⟩, hv⟩ := hS
  -- statement 1
  refine sw_seq (sw_drop (ew_call (aw_cons (ew_var rfl (aw_cons (ew_var rfl (aw_nil ⟨_, _, rfl, ⟨hh, hm1, hm2⟩, ?_⟩)))))))
  -- statement 2
  refine sw_seq (sw_if (tw_test (ew_isP (ew_var rfl ⟨_, rfl, ⟨fun hx2 => ?_, fun hx2 => ?_⟩⟩))))
  · have hnn := hx2
    rcases hv with ⟨rfl, hQ⟩ | ⟨vs, rfl, hl, hQ⟩
    rotate_left
    · exact absurd hnn (by intro z; cases z)
    -- statement 3
    refine sw_ret (ew_call (aw_cons (ew_var rfl (aw_cons (ew_var rfl (aw_nil ⟨_, _, rfl, ⟨hh, hm1, hm2⟩, ?_⟩))))))
    first | exact .inl hQ | exact rt_is hQ (by simp) | exact rt_is hQ (by first | rfl | (congr 1 <;> simp; done))
  · have hnn := hx2
    rcases hv with ⟨rfl, hQ⟩ | ⟨vs, rfl, hl, hQ⟩
    · exact absurd hnn (by intro z; cases z)
    refine sw_next ?_
    -- statement 4
    refine sw_seq (sw_if (tw_or' (tw_not (tw_B (ew_call (aw_cons (ew_var rfl (aw_nil ⟨_, rfl, (by walk_at "pl"), ⟨_, rfl, ⟨rfl, rfl⟩⟩⟩)))))) (fun hbx5 => (tw_test (ew_neI (ew_len (ew_var rfl ⟨_, (.t _), ⟨_, rfl, (ew_len (ew_var rfl ⟨_, (.t _), ⟨_, rfl, ⟨_, rfl, ⟨rfl, rfl⟩⟩⟩⟩))⟩⟩))))) ⟨fun hx4 => ?_, fun hx4 => ?_⟩))
    · have hbad := hx4
      -- statement 5
      refine sw_ret (ew_bl ?_)
      refine rt_is hQ ?_
      unfold showsB
      simp only [Bool.or_eq_true, Bool.not_eq_true', Bool.not_eq_eq_eq_not, Bool.not_true, List.length_map] at hbad
      rcases hbad with z | z
      · rw [z]; rfl
      · have z3 : ¬ (vs.length : Int) = hs.length := by simpa using z
        have z2 : ¬ vs.length = hs.length := fun e => z3 (by rw [e])
        rw [decide_eq_false z2]; simp
    · have hok := hx4
      simp only [Bool.or_eq_false_iff, Bool.not_eq_false', List.length_map, decide_eq_true_eq] at hok
      obtain ⟨hok1, hok2⟩ := hok
      have hlen : vs.length = hs.length := by omega
      refine sw_next ?_
      -- statement 6
      refine sw_seq (sw_if (tw_B (ew_any (ew_lcM pairI (hs.zip vs) (fun z => P.bl (decide (z.2 > z.1))) (gc_tup (gcs_cons (gc_name (by decide)) (gcs_cons (gc_name (by decide)) gcs_nil))) (iw_zip2 (aw_cons (ew_var rfl (aw_cons (ew_var rfl (aw_nil ⟨_, _, _, _, rfl, (.tup _), (.tup _), ⟨(zip_ints _ _), rfl⟩⟩)))))) (by rw [List.length_zip]; have := hh.1; omega) (fun x hx => gw_tup rfl (gws_cons (gw_name (gws_cons (gw_name (gws_nil ⟨rfl, (tw_yes ⟨rfl, rfl⟩), fun hf => (ew_opB (ew_var rfl ⟨_, rfl, (ew_var rfl ⟨_, rfl, ⟨rfl, rfl⟩⟩)⟩))⟩)))))) ⟨((hs.zip vs).map fun z => decide (z.2 > z.1)), (LstOf.of (.lst _) (by rw [List.map_map]; rfl)), ⟨_, rfl, ⟨fun hx7 => ?_, fun hx7 => ?_⟩⟩⟩))))
      · have hbad := hx7
        -- statement 7
        refine sw_ret (ew_bl ?_)
        refine rt_is hQ ?_
        rw [zip_any hlen] at hbad
        have hb2 : (List.range hs.length).all (fun i => decide (Moore.at_ vs i ≤ Moore.at_ hs i)) = false := by
          cases e : (List.range hs.length).all fun i => decide (Moore.at_ vs i ≤ Moore.at_ hs i) with
          | true => rw [e] at hbad; cases hbad
          | false => rfl
        unfold showsB
        rw [hb2]; simp
      · have hle := hx7
        refine sw_next ?_
        -- statement 8
        refine sw_seq (sw_set (ew_len (ew_lcT (fun i : Nat => P.int (0 + (i : Int))) (List.range hs.length) (fun i : Nat => decide (vs.getD (0 + (i : Int)).toNat 0 < hs.getD (0 + (i : Int)).toNat 0)) (fun i : Nat => P.int (0 + (i : Int))) (gc_name (by decide)) (iw_rng1 (aw_cons (ew_len (ew_var rfl ⟨_, (.t _), (aw_nil ⟨_, rfl, (by have := hh.1; rw [List.length_map]; exact ⟨by omega, by omega⟩), ⟨(by rw [List.length_map, Int.toNat_natCast]; rfl), rfl⟩⟩)⟩)))) (by rw [List.length_range]; have := hh.1; omega) (fun x hx => have hx := List.mem_range.mp hx; gw_name ⟨rfl, (tw_test (ew_opB (ew_ixT (ew_var rfl (ew_var rfl ⟨_, _, _, rfl, rfl, (atI_ints (by omega) (by omega)), ⟨_, rfl, (ew_ixT (ew_var rfl (ew_var rfl ⟨_, _, _, rfl, rfl, (atI_ints (by omega) (by omega)), ⟨_, rfl, ⟨_, rfl, ⟨rfl, rfl⟩⟩⟩⟩)))⟩⟩))))), fun hf => (ew_var rfl ⟨rfl, rfl⟩)⟩) ⟨_, (.l (.lst _)), ?_⟩)))
        -- statement 9
        refine sw_ret (ew_and' (ew_chain' (ew_int ⟨_, rfl, (ew_var rfl ⟨_, _, rfl, fun hcx9 => (ew_var rfl ⟨rfl, rfl⟩), ⟨rfl, rfl⟩⟩)⟩)) (fun hbx8 => (ew_call (aw_cons (ew_var rfl (aw_cons (ew_var rfl (aw_nil ⟨_, _, rfl, ⟨heaps_of hok1, hm1, hm2⟩, ⟨rfl, rfl⟩⟩))))))) ?_)
        refine rt_is hQ ?_
        rw [zip_any hlen] at hle
        have hb2 : (List.range hs.length).all (fun i => decide (Moore.at_ vs i ≤ Moore.at_ hs i)) = true := by
          cases e : (List.range hs.length).all fun i => decide (Moore.at_ vs i ≤ Moore.at_ hs i) with
          | true => rfl
          | false => rw [e] at hle; cases hle
        unfold showsB
        rw [hb2, hok1, decide_eq_true hlen, Bool.true_and, Bool.true_and, Bool.true_and, less_len]
end K22

set_option Elab.async false
set_option linter.all false
set_option maxRecDepth 100000
local macro_rules | `(tactic| walk_at "pl") => `(tactic| first | assumption | rfl | omega | exact PL.get_app | exact PL.get_appS | exact ⟨by omega, by omega⟩ | exact Or.inl ⟨by omega, by omega⟩ | exact Or.inr ⟨by omega, by omega⟩ | (show (0 : Int) < _; omega) | decide | (simp only [List.length_cons, List.length_nil]; omega) | (refine ⟨?_, ?_⟩ <;> first | assumption | omega))
local macro_rules | `(tactic| walk_at "pl end") => `(tactic| first | exact .inl hQ | exact rt_is hQ (by simp))
local macro_rules | `(tactic| walk_at "pl dead") => `(tactic| first | omega | (intros; simp_all; done) | (intros; simp_all; omega))
namespace K22
open PySem PySem.Spec PyProof.Rows L2 Evl PL
variable {K : PySem.W.Frag} {P₀ : Program} {w : World} {mg : Str → Option Value} {base : Heap}
def natI (i : Nat) : P := .int (i : Int)
def plc : Nat → Int
  | 0 => 0
  | k + 1 => Moore.pw k
theorem plc_half : ∀ k : Nat, Moore.pw k / 2 = plc k
  | 0 => by decide
  | k + 1 => by show 2 * Moore.pw k / 2 = Moore.pw k; omega
theorem natI_ints (fr : List Nat) : fr.map natI = (fr.map fun i : Nat => (i : Int)).map P.int := by rw [List.map_map]; rfl
theorem mem_nat {fr : List Nat} {i : Nat} : decide (((i : Nat) : Int) ∈ fr.map fun i : Nat => (i : Int)) = decide (i ∈ fr) := by
  have e : (((i : Nat) : Int) ∈ fr.map fun i : Nat => (i : Int)) ↔ i ∈ fr := by
    rw [List.mem_map]
    constructor
    · rintro ⟨j, hj, e⟩
      have : j = i := by omega
      rw [← this]; exact hj
    · exact fun h => ⟨i, h, rfl⟩
  simp only [e]
theorem enum_range : ∀ (l : List Int), enumP 0 (l.map P.int) = (List.range l.length).map fun i : Nat => P.tup [.int (i : Int), .int (Moore.at_ l i)] := by
  intro l
  refine List.ext_getElem? fun i => ?_
  by_cases h : i < l.length
  · rw [List.getElem?_map, List.getElem?_range h]
    cases e : (enumP 0 (l.map P.int))[i]? with
    | none =>
      rw [List.getElem?_eq_none_iff, enumP_len, List.length_map] at e
      omega
    | some p =>
      obtain ⟨x, hx, rfl⟩ := enumP_get e
      rw [List.getElem?_map] at hx
      cases e2 : l[i]? with
      | none => rw [e2] at hx; cases hx
      | some y =>
        rw [e2] at hx
        injection hx with hx
        subst hx
        have : Moore.at_ l i = y := by unfold Moore.at_; rw [List.getD_eq_getElem?_getD, e2]; rfl
        simp [this]
  · rw [List.getElem?_eq_none (by rw [enumP_len, List.length_map]; omega), List.getElem?_eq_none (by rw [List.length_map, List.length_range]; omega)]
theorem get2a {c : List Ob} {a b : Ob} : (c ++ [a, b])[c.length]? = some a := by rw [List.getElem?_append_right (Nat.le_refl _), Nat.sub_self]; rfl
theorem get2b {c : List Ob} {a b : Ob} : (c ++ [a, b])[c.length + 1]? = some b := by rw [List.getElem?_append_right (Nat.le_add_right _ _), Nat.add_sub_cancel_left]; rfl
theorem set2a {c : List Ob} {a b a' : Ob} : (c ++ [a, b]).set c.length a' = c ++ [a', b] := by rw [List.set_append_right _ _ (Nat.le_refl _), Nat.sub_self]; rfl
theorem set2b {c : List Ob} {a b b' : Ob} : (c ++ [a, b]).set (c.length + 1) b' = c ++ [a, b'] := by rw [List.set_append_right _ _ (Nat.le_add_right _ _), Nat.add_sub_cancel_left]; rfl
theorem get2S {c : List Ob} {a b a' : Ob} : ((c ++ [a, b]).set c.length a')[c.length + 1]? = some b := by rw [set2a]; exact get2b
theorem cut_take (xs : List P) (n : Nat) : cutP xs none (some (n : Int)) = xs.take n := by
  unfold cutP
  rw [HT.sIx_none, HT.sIx_nat, List.drop_zero, Nat.sub_zero]
  rcases Nat.le_total n xs.length with h | h
  · rw [Nat.min_eq_left h]
  · rw [Nat.min_eq_right h, List.take_length, List.take_of_length_le h]
theorem cut_nat (fr : List Nat) (n : Nat) : cutP (fr.map natI) none (some (n : Int)) = (fr.take n).map natI := by rw [cut_take, List.map_take]
theorem get_nat {l : List Nat} {i : Nat} {p : P} (h : (l.map natI)[i]? = some p) : ∃ j, l[i]? = some j ∧ p = .int (j : Int) := by
  rw [List.getElem?_map] at h
  cases e : l[i]? with
  | none => rw [e] at h; cases h
  | some j => rw [e] at h; exact ⟨j, rfl, (Option.some.inj h).symm⟩
theorem atI_at {l : List Int} {j : Nat} (h : j < l.length) : atI (l.map P.int) (j : Int) = some (.int (Moore.at_ l j)) := by
  rw [atI_ints (by omega) (by omega)]
  unfold Moore.at_
  rw [Int.toNat_natCast]
theorem ixN_at {l : List Int} {j : Nat} (h : j < l.length) : ixN (l.map P.int).length (j : Int) = some j := by
  unfold ixN
  rw [if_pos (show (0 : Int) ≤ (j : Int) by omega), Int.toNat_natCast, if_pos (by rw [List.length_map]; omega)]
theorem set_ints (l : List Int) (j : Nat) (x : Int) : (l.map P.int).set j (.int x) = (l.set j x).map P.int := (List.map_set ..).symm
theorem take_snoc {α : Type} {l : List α} {i : Nat} {j : α} (h : l[i]? = some j) : l.take (i + 1) = l.take i ++ [j] := by rw [List.take_add_one, h]; rfl
theorem add_snoc {p : Int} {l : List Int} {is : List Nat} {j : Nat} : Moore.addAt p l (is ++ [j]) = (Moore.addAt p l is).set j (Moore.at_ (Moore.addAt p l is) j + p) := by
  unfold Moore.addAt; rw [List.foldl_append]; rfl
theorem clr_snoc {p : Int} {l : List Int} {is : List Nat} {j : Nat} : Moore.clrAt p l (is ++ [j]) = (Moore.clrAt p l is).set j (Moore.at_ (Moore.clrAt p l is) j - Moore.at_ (Moore.clrAt p l is) j % (2 * p)) := by
  unfold Moore.clrAt; rw [List.foldl_append]; rfl
theorem foldl_len (g : List Int → Nat → Int) : ∀ (is : List Nat) (l : List Int), (is.foldl (fun l i => l.set i (g l i)) l).length = l.length
  | [], _ => rfl
  | i :: is, l => by rw [List.foldl_cons, foldl_len g is]; exact List.length_set
theorem add_len {p : Int} {l : List Int} {is : List Nat} : (Moore.addAt p l is).length = l.length := foldl_len (fun l i => Moore.at_ l i + p) is l
theorem clr_len {p : Int} {l : List Int} {is : List Nat} : (Moore.clrAt p l is).length = l.length := foldl_len (fun l i => Moore.at_ l i - Moore.at_ l i % (2 * p)) is l
theorem rest_int {m : Int} (hm : 1 ≤ m) {p : Int} {l : List Int} {fr : List Nat} : (((Moore.thereL p l fr).map natI).length : Int) % (m + 1) = (Moore.restOf m.toNat p l fr : Int) := by
  unfold Moore.restOf
  rw [List.length_map, Int.natCast_emod]
  congr 1
  omega
theorem put_int {m : Int} (hm : 1 ≤ m) {p : Int} {l : List Int} {fr : List Nat} : (m + 1 - (Moore.restOf m.toNat p l fr : Int)) % (m + 1) = (Moore.putOf m.toNat p l fr : Int) := by
  have h : Moore.restOf m.toNat p l fr < m.toNat + 1 := Nat.mod_lt _ (by omega)
  unfold Moore.putOf
  rw [Int.natCast_emod]
  congr 1
  all_goals omega
theorem pw_le {k : Nat} (h : k < 10) : Moore.pw k ≤ 512 := by
  have := Moore.pw_mono (show k ≤ 9 by omega)
  have e : Moore.pw 9 = 512 := by decide
  omega
theorem in_there {p : Int} {l : List Int} {fr : List Nat} {i j : Nat} (h : (Moore.thereL p l fr)[i]? = some j) : j < l.length := by
  have := List.mem_of_getElem? h
  unfold Moore.thereL at this
  rw [List.mem_filter, List.mem_range] at this
  exact this.1
theorem take_get {α : Type} {l : List α} {n i : Nat} {j : α} (h : (l.take n)[i]? = some j) : l[i]? = some j := by
  rw [List.getElem?_take] at h
  split at h
  · exact h
  · cases h
local macro_rules | `(tactic| walk_at "pl") => `(tactic| first | exact get2a | exact get2b | exact get2S)

abbrev N_to_come_out : List Str := ["heaps", "many", "left", "freed", "place", "there", "rest", "put", "at", "size"]
theorem sc_to_come_out : FnScope N_to_come_out ["heaps", "many"] (defScope s_to_come_out) := ⟨rfl, rfl, rfl, by decide +kernel, rfl, by decide +kernel, by decide +kernel⟩
set_option maxHeartbeats 4000000 in
theorem ok_to_come_out (G : GF K mg) (c_high_place : Cl P₀ w K mg base 1 "high_place" S_high_place) : Cl P₀ w K mg base 2 "to_come_out" S_to_come_out := by
  refine pfn G.d_to_come_out sc_to_come_out (fun _ _ _ _ _ _ us hl => match us, hl with | [_, _], _ => rfl) (fun qs c Q h => ?_) (fun f cdv A outer s H E hr => ?_)
  · obtain ⟨hs, m, rfl, ⟨hh, hm1, hm2⟩, hQ⟩ := h; rfl
  have hu := hr.units
  refine ⟨_, (pss_cons (ps_asg (pe_tup (pa_cons (pe_callTy (call_list_of' (K := K) rfl) rfl G.b_list boot_list (pa_cons (pv 0) pa_nil)) (pa_cons (pe_lst pa_nil) (pa_cons (pe_cl c_high_place ⟨rfl, rfl, rfl, rfl, rfl⟩ hr (by omega) rfl (pa_cons (pv 0) pa_nil)) pa_nil)))) (pg_tup' (K := K) rfl rfl (pgs_cons (pg_name (i := 2) sc_to_come_out.nd rfl (Or.inl rfl)) (pgs_cons (pg_name (i := 3) sc_to_come_out.nd rfl (Or.inr rfl)) (pgs_cons (pg_name (i := 4) sc_to_come_out.nd rfl (Or.inr rfl)) pgs_nil))))) (pss_cons (ps_while PassesOwn.never (pt_cmpR op_gt (pv 4) pe_int (nomark _)) (pss_cons (ps_setLc (i := 5) (own := [("at", 8), ("size", 9)]) rfl sc_to_come_out.nd rfl rfl (sw_true rfl rfl rfl (by decide +kernel)) (pi_enum2 (K := K) true rfl rfl G.b_enumerate (pa_cons (pv 2) pa_nil)) (blkOk_by (N := N_to_come_out) (sc := defScope s_to_come_out) (by decide +kernel)) (fun _ _ _ _ _ => (pg_tup' (K := K) (n := 2) rfl rfl (pgs_cons (pg_name (i := 8) sc_to_come_out.nd rfl (by first | exact Or.inl rfl | exact Or.inr rfl)) (pgs_cons (pg_name (i := 9) sc_to_come_out.nd rfl (by first | exact Or.inl rfl | exact Or.inr rfl)) pgs_nil)))) (fun _ _ _ _ _ => (pts_one (PW.pt (pw_and (pt_cmpR (op_notIn_seq' (K := K) rfl) (pv 8) (pv 3) rfl) (pw_and1 (pt_cmpR op_eq (pe_op op_mod (pe_op op_fdiv (pv 9) (pv 4)) pe_int) pe_int (nomark _))))))) (fun _ _ _ _ _ => (pv 8))) (pss_cons (ps_set (i := 6) sc_to_come_out.nd rfl (Or.inl rfl) (pe_op op_mod (pe_callB (call_len_seq' (K := K) rfl) rfl G.b_len boot_len (pa_cons (pv 5) pa_nil)) (pe_op op_add (pv 1) pe_int))) (pss_cons (ps_set (i := 7) sc_to_come_out.nd rfl (Or.inl rfl) (pe_op op_mod (pe_op op_sub (pe_op op_add (pv 1) pe_int) (pv 6)) (pe_op op_add (pv 1) pe_int))) (pss_cons (ps_if (pt_cmpR op_le (pv 7) (pe_callB (call_len_seq' (K := K) rfl) rfl G.b_len boot_len (pa_cons (pv 3) pa_nil)) (nomark _)) (pss_one (ps_for PassesOwn.never rfl (pi_list' (K := K) rfl (pe_slice (sl_list' (K := K) rfl) (pv 3) po_none (po_some (pv 7)))) (pg_name (i := 8) sc_to_come_out.nd rfl (Or.inl rfl)) (pss_one (ps_asg (pe_op op_add (pe_ix (ix_list' (K := K) rfl) (pv 2) (pv 8) (fun _ _ => rfl)) (pv 4)) (pg_sub (pv 2) (pv 8) set_list (fun _ => rfl)))))) (pss_one (ps_for PassesOwn.never rfl (pi_list' (K := K) rfl (pe_slice (sl_list' (K := K) rfl) (pv 5) po_none (po_some (pv 6)))) (pg_name (i := 8) sc_to_come_out.nd rfl (Or.inl rfl)) (pss_cons (ps_asg (pe_op op_sub (pe_ix (ix_list' (K := K) rfl) (pv 2) (pv 8) (fun _ _ => rfl)) (pe_op op_mod (pe_ix (ix_list' (K := K) rfl) (pv 2) (pv 8) (fun _ _ => rfl)) (pe_op op_mul pe_int (pv 4)))) (pg_sub (pv 2) (pv 8) set_list (fun _ => rfl))) (pss_one (ps_expr (pe_bm' (K := K) rfl PySem.F.plainAttrs_list PySem.F.slot_list_append PySem.F.type_list_append mt_append (pv 3) (pa_cons (pv 8) pa_nil)))))))) (pss_one (ps_set (i := 4) sc_to_come_out.nd rfl (Or.inr rfl) (pe_op op_fdiv (pv 4) pe_int)))))))) (pss_one (ps_ret (pe_callTy (call_tuple_of' (K := K) rfl) rfl G.b_tuple boot_tuple (pa_cons (pv 2) pa_nil)))))), fun qs c Q hS hb => ?_⟩
  obtain ⟨hs, m, rfl, ⟨hh, hm1, hm2⟩, hQ⟩ := hS
  -- statement 1
  refine sw_seq (sw_asg (ew_tup (aw_cons (ew_listOfC (ew_var rfl ⟨_, (.t _), (aw_cons (ew_lstC (aw_nil ⟨(by show 0 ≤ 100000; decide), (aw_cons (ew_call (aw_cons (ew_var rfl (aw_nil ⟨_, rfl, hh, fun hk1 h11 h21 => (aw_nil ⟨(by show 3 ≤ 100000; decide), gw_tup rfl (gws_cons (gw_name (gws_cons (gw_name (gws_cons (gw_name (gws_nil ?_)))))))⟩)⟩)))))⟩)))⟩)))))
  -- statement 2
  refine sw_seq (sw_while (fun (μ : Nat) ρ c' => ∃ (kk : Nat) (l : List Int) (fr : List Nat) (y1 y2 y3 y4 y5 : Option P), c' = c ++ [.lst (l.map P.int), .lst (fr.map natI)] ∧ ρ = [some (.tup (hs.map P.int)), some (.int m), some (.cell c.length), some (.cell (c.length + 1)), some (.int (plc kk)), y1, y2, y3, y4, y5] ∧ Moore.Inv m.toNat hs kk l fr ∧ kk ≤ 10 ∧ μ = kk) (hk1 + 1) ⟨hk1 + 1, hs, [], none, none, none, none, none, by simp, by simp; rfl, Moore.Inv.start (fun x hx => (hh.2 x hx).1) h21, by omega, rfl⟩ (fun μ ρ' c' hW => ?_))
  obtain ⟨kk, l, fr, y1, y2, y3, y4, y5, rfl, rfl, I, hkk, hμ⟩ := hW
  refine (tw_test (ew_opB (ew_var rfl ⟨_, rfl, (ew_int ⟨_, rfl, ⟨_, rfl, ⟨fun hx2 => ⟨fun ρ2 c2 => ∃ μ', μ' < μ ∧ ((fun (μ : Nat) ρ c' => ∃ (kk : Nat) (l : List Int) (fr : List Nat) (y1 y2 y3 y4 y5 : Option P), c' = c ++ [.lst (l.map P.int), .lst (fr.map natI)] ∧ ρ = [some (.tup (hs.map P.int)), some (.int m), some (.cell c.length), some (.cell (c.length + 1)), some (.int (plc kk)), y1, y2, y3, y4, y5] ∧ Moore.Inv m.toNat hs kk l fr ∧ kk ≤ 10 ∧ μ = kk)) μ' ρ2 c2, fun _ _ h => h, ?_⟩, fun hx2 => ?_⟩⟩⟩)⟩)))
  · simp only [gt_iff_lt, decide_eq_true_eq] at hx2
    obtain ⟨k, rfl⟩ : ∃ k, kk = k + 1 := by
      cases kk with
      | zero => exact absurd hx2 (by decide)
      | succ k => exact ⟨k, rfl⟩
    have hp0 : 0 < Moore.pw k := Moore.pw_pos k
    have hp1 := pw_le (show k < 10 by omega)
    have hll := I.len
    have hl12 : l.length ≤ 12 := by rw [hll]; exact hh.1
    have hst := I.step
    have hfew : fr.length ≤ 12 := by have := I.few; omega
    -- statement 3
    refine sw_seq (sw_set (ew_lcTC (fun i : Nat => P.tup [.int (i : Int), .int (Moore.at_ l i)]) (List.range l.length) (fun i => !decide (i ∈ fr) && Moore.bit (Moore.pw k) (Moore.at_ l i)) natI (gc_tup (gcs_cons (gc_name (by decide)) (gcs_cons (gc_name (by decide)) gcs_nil))) (iw_enumC (aw_cons (ew_var rfl (aw_nil ⟨_, _, rfl, (by walk_at "pl"), ⟨(enum_range l), rfl, (by walk_at "pl")⟩⟩)))) (by rw [List.length_range]; omega) (fun x hx => gw_tup rfl (gws_cons (gw_name (gws_cons (gw_name (gws_nil ⟨rfl, (tw_and' (tw_test (ew_in (ew_var rfl (ew_var rfl ⟨_, (fr.map fun i : Nat => (i : Int)), rfl, (SeqOf.of (.l (.cell (by walk_at "pl"))) (natI_ints fr)), ⟨_, rfl, ⟨rfl, rfl⟩⟩⟩)))) (fun hbx3 => (tw_test (ew_eqI (ew_opC (ew_opC (ew_var rfl ⟨_, rfl, (ew_var rfl ⟨_, rfl, ⟨hp0, show Moore.pw k < 1073741824 by omega⟩, ⟨_, rfl, (ew_int ⟨_, rfl, (by walk_at "pl"), ⟨_, rfl, (ew_int ⟨_, rfl, ⟨_, rfl, ⟨rfl, rfl⟩⟩⟩)⟩⟩)⟩⟩)⟩)))))) ⟨(by rw [if_pos rfl, mem_nat]; rfl), rfl⟩), fun hf => (ew_var rfl ⟨rfl, rfl⟩)⟩)))))) ?_))
    rw [show List.filter (fun i => !decide (i ∈ fr) && Moore.bit (Moore.pw k) (Moore.at_ l i)) (List.range l.length) = Moore.thereL (Moore.pw k) l fr from rfl]
    -- statement 4
    refine sw_seq (sw_set (ew_gen (ew_opC (ew_len (ew_var rfl ⟨_, (.l (.lst _)), ⟨_, rfl, (ew_opI (ew_var rfl ⟨_, rfl, (ew_int ⟨_, rfl, ⟨_, rfl, (by walk_at "pl"), ⟨rfl, rfl⟩⟩⟩)⟩))⟩⟩))) (fun rs hrs => ?_)))
    have hrs2 : rs = (Moore.restOf m.toNat (Moore.pw k) l fr : Int) := hrs.trans (rest_int hm1)
    subst hrs2
    -- statement 5
    refine sw_seq (sw_set (ew_gen (ew_opC (ew_opI (ew_opI (ew_var rfl ⟨_, rfl, (ew_int ⟨_, rfl, ⟨_, rfl, (ew_var rfl ⟨_, rfl, ⟨_, rfl, (ew_opI (ew_var rfl ⟨_, rfl, (ew_int ⟨_, rfl, ⟨_, rfl, (by walk_at "pl"), ⟨rfl, rfl⟩⟩⟩)⟩))⟩⟩)⟩⟩)⟩)))) (fun pu hpu => ?_)))
    have hpu2 : pu = (Moore.putOf m.toNat (Moore.pw k) l fr : Int) := hpu.trans (put_int hm1)
    subst hpu2
    -- statement 6
    refine sw_seq (sw_if (tw_test (ew_opB (ew_var rfl ⟨_, rfl, (ew_len (ew_var rfl ⟨_, (.l (.cell (by walk_at "pl"))), ⟨_, rfl, ⟨_, rfl, ⟨fun hx4 => ?_, fun hx4 => ?_⟩⟩⟩⟩))⟩))))
    · have hle : Moore.putOf m.toNat (Moore.pw k) l fr ≤ fr.length := by rw [decide_eq_true_eq, List.length_map] at hx4; omega
      -- statement 7
      refine sw_for (iw_list (ew_slL (ew_var rfl (ow_none (ow_some (ew_var rfl ⟨_, rfl, ⟨_, (.cell (by walk_at "pl")), ⟨_, rfl, ⟨(fun i ρ c' => ∃ y : Option P, c' = c ++ [.lst ((Moore.addAt (Moore.pw k) l ((fr.take (Moore.putOf m.toNat (Moore.pw k) l fr)).take i)).map P.int), .lst (fr.map natI)] ∧ ρ = [some (.tup (hs.map P.int)), some (.int m), some (.cell c.length), some (.cell (c.length + 1)), some (.int (Moore.pw k)), some (.lst ((Moore.thereL (Moore.pw k) l fr).map natI)), some (.int (Moore.restOf m.toNat (Moore.pw k) l fr : Int)), some (.int (Moore.putOf m.toNat (Moore.pw k) l fr : Int)), y, y5]), ⟨y4, rfl, rfl⟩, fun i p ρ' c' hi hP => ?_, fun ρ' c' hP => ?_⟩⟩⟩⟩))))))
      · obtain ⟨y, rfl, rfl⟩ := hP
        rw [cut_nat] at hi
        obtain ⟨j, hj, rfl⟩ := get_nat hi
        have hjl : j < (Moore.addAt (Moore.pw k) l ((fr.take (Moore.putOf m.toNat (Moore.pw k) l fr)).take i)).length := by rw [add_len, hll]; exact I.ix j (List.mem_of_getElem? (take_get hj))
        refine gw_name ?_
        -- statement 8
        refine sw_asg (ew_opI (ew_ixL (ew_var rfl (ew_var rfl ⟨_, _, _, (.cell get2a), rfl, (atI_at hjl), ⟨_, rfl, (ew_var rfl ⟨_, rfl, (gw_setL (ew_var rfl ⟨_, rfl, (ew_var rfl ⟨_, _, _, rfl, get2a, (ixN_at hjl), ?_⟩)⟩))⟩)⟩⟩))))
        refine ⟨_, ?_, rfl⟩
        rw [set2a, set_ints, take_snoc hj, add_snoc]
      · obtain ⟨y, rfl, rfl⟩ := hP
        rw [cut_nat, List.length_map, List.take_length]
        unfold Moore.step at hst
        dsimp only at hst
        rw [if_pos hle] at hst
        -- statement 12
        refine sw_set (ew_opC (ew_var rfl ⟨_, rfl, (ew_int ⟨_, rfl, (by walk_at "pl"), ?_⟩)⟩))
        refine ⟨k, by omega, k, _, _, some (.lst ((Moore.thereL (Moore.pw k) l fr).map natI)), some (.int (Moore.restOf m.toNat (Moore.pw k) l fr : Int)), some (.int (Moore.putOf m.toNat (Moore.pw k) l fr : Int)), y, y5, rfl, ?_, hst, by omega, rfl⟩
        rw [show Moore.pw k / 2 = plc k from plc_half k]; rfl
        try trivial
    · have hle : ¬ Moore.putOf m.toNat (Moore.pw k) l fr ≤ fr.length := by rw [decide_eq_false_iff_not, List.length_map] at hx4; omega
      -- statement 9
      refine sw_for (iw_list (ew_slL (ew_var rfl (ow_none (ow_some (ew_var rfl ⟨_, rfl, ⟨_, (.lst _), ⟨_, rfl, ⟨(fun i ρ c' => ∃ y : Option P, c' = c ++ [.lst ((Moore.clrAt (Moore.pw k) l (((Moore.thereL (Moore.pw k) l fr).take (Moore.restOf m.toNat (Moore.pw k) l fr)).take i)).map P.int), .lst ((fr ++ ((Moore.thereL (Moore.pw k) l fr).take (Moore.restOf m.toNat (Moore.pw k) l fr)).take i).map natI)] ∧ ρ = [some (.tup (hs.map P.int)), some (.int m), some (.cell c.length), some (.cell (c.length + 1)), some (.int (Moore.pw k)), some (.lst ((Moore.thereL (Moore.pw k) l fr).map natI)), some (.int (Moore.restOf m.toNat (Moore.pw k) l fr : Int)), some (.int (Moore.putOf m.toNat (Moore.pw k) l fr : Int)), y, y5]), ⟨y4, by rw [List.take_zero, List.append_nil]; rfl, rfl⟩, fun i p ρ' c' hi hP => ?_, fun ρ' c' hP => ?_⟩⟩⟩⟩))))))
      · obtain ⟨y, rfl, rfl⟩ := hP
        rw [cut_nat] at hi
        obtain ⟨j, hj, rfl⟩ := get_nat hi
        have hj : ((Moore.thereL (Moore.pw k) l fr).take (Moore.restOf m.toNat (Moore.pw k) l fr))[i]? = some j := hj
        have hjl : j < (Moore.clrAt (Moore.pw k) l (((Moore.thereL (Moore.pw k) l fr).take (Moore.restOf m.toNat (Moore.pw k) l fr)).take i)).length := by rw [clr_len]; exact in_there (take_get hj)
        have hsz : ((fr ++ ((Moore.thereL (Moore.pw k) l fr).take (Moore.restOf m.toNat (Moore.pw k) l fr)).take i).map natI).length < 100000 := by
          have h1 : (Moore.thereL (Moore.pw k) l fr).length ≤ l.length := by
            unfold Moore.thereL
            exact Nat.le_trans (List.length_filter_le _ _) (by rw [List.length_range]; exact Nat.le_refl _)
          rw [List.length_map, List.length_append, List.length_take, List.length_take]
          omega
        refine gw_name ?_
        -- statement 10
        refine sw_seq (sw_asg (ew_opI (ew_ixL (ew_var rfl (ew_var rfl ⟨_, _, _, (.cell get2a), rfl, (atI_at hjl), ⟨_, rfl, (ew_opC (ew_ixL (ew_var rfl (ew_var rfl ⟨_, _, _, (.cell get2a), rfl, (atI_at hjl), ⟨_, rfl, (ew_opC (ew_int ⟨_, rfl, (ew_var rfl ⟨_, rfl, (Or.inl ⟨by decide, by decide⟩), ⟨_, rfl, (by walk_at "pl"), ⟨_, rfl, (gw_setL (ew_var rfl ⟨_, rfl, (ew_var rfl ⟨_, _, _, rfl, get2a, (ixN_at hjl), ?_⟩)⟩))⟩⟩⟩)⟩))⟩⟩))))⟩⟩)))))
        -- statement 11
        refine sw_drop (ew_app (ew_var rfl ⟨_, _, rfl, (by walk_at "pl"), (ew_var rfl ⟨_, (by walk_at "pl"), (by walk_at "pl"), ?_⟩)⟩))
        refine ⟨_, ?_, rfl⟩
        rw [set2a, set2b, set_ints, take_snoc hj, clr_snoc, ← List.append_assoc, List.map_append (l₂ := [j])]; rfl
      · obtain ⟨y, rfl, rfl⟩ := hP
        rw [cut_nat, List.length_map, List.take_length]
        unfold Moore.step at hst
        dsimp only at hst
        rw [if_neg hle] at hst
        -- statement 12
        refine sw_set (ew_opC (ew_var rfl ⟨_, rfl, (ew_int ⟨_, rfl, (by walk_at "pl"), ?_⟩)⟩))
        refine ⟨k, by omega, k, _, _, some (.lst ((Moore.thereL (Moore.pw k) l fr).map natI)), some (.int (Moore.restOf m.toNat (Moore.pw k) l fr : Int)), some (.int (Moore.putOf m.toNat (Moore.pw k) l fr : Int)), y, y5, rfl, ?_, hst, by omega, rfl⟩
        rw [show Moore.pw k / 2 = plc k from plc_half k]; rfl
        try trivial
  · have hk0 : kk = 0 := by
      cases kk with
      | zero => rfl
      | succ k =>
        exfalso
        have := Moore.pw_pos k
        rw [decide_eq_false_iff_not] at hx2
        exact hx2 this
    subst hk0
    have hT : Moore.Told m.toNat hs l fr := ⟨I.len, I.nd, I.ix, I.nn, I.same, fun i hi => by have h1 : Moore.at_ l i + Moore.pw 0 ≤ Moore.at_ hs i := I.less i hi; have e : Moore.pw 0 = 1 := rfl; omega, fun j => I.done j (Nat.zero_le j), I.few⟩
    -- statement 13
    refine sw_ret (ew_tupleOf (ew_var rfl ⟨_, (.l (.cell (by walk_at "pl"))), ?_⟩))
    refine rt_app hb ?_ (hQ l fr hT)
    exact bels_ints _ _
end K22

set_option Elab.async false
set_option linter.all false
set_option maxRecDepth 100000
local macro_rules | `(tactic| walk_at "pl") => `(tactic| first | assumption | rfl | omega | exact PL.get_app | exact PL.get_appS | exact ⟨by omega, by omega⟩ | exact Or.inl ⟨by omega, by omega⟩ | exact Or.inr ⟨by omega, by omega⟩ | (show (0 : Int) < _; omega) | decide | (simp only [List.length_cons, List.length_nil]; omega) | (refine ⟨?_, ?_⟩ <;> first | assumption | omega))
local macro_rules | `(tactic| walk_at "pl end") => `(tactic| first | exact .inl hQ | exact rt_is hQ (by simp))
local macro_rules | `(tactic| walk_at "pl dead") => `(tactic| first | omega | (intros; simp_all; done) | (intros; simp_all; omega))
namespace K22
open PySem PySem.Spec PyProof.Rows L2 Evl PL
variable {K : PySem.W.Frag} {P₀ : Program} {w : World} {mg : Str → Option Value} {base : Heap}
theorem big1 : CPowW (10 ^ (60 : Int).toNat) 5 := ⟨by decide, by decide +kernel⟩
theorem big2 : (0 : Int) < (10 ^ (60 : Int).toNat) ^ (5 : Int).toNat := by decide +kernel
theorem big3 : ((10 ^ (60 : Int).toNat) ^ (5 : Int).toNat : Int) = 10 ^ 300 := by decide +kernel
theorem big4 : ((10 : Int) ^ 300).natAbs < 2 ^ 1000 := by decide +kernel
theorem own_bd {x : Int} {b : Bool} : CMulW (x % (10 ^ (60 : Int).toNat) ^ (5 : Int).toNat) (if b then 1 else 0) := by
  have h0 := Int.emod_nonneg x (Int.ne_of_gt big2)
  have h1 := Int.emod_lt_of_pos x big2
  refine wide_mul (a := 1000) (b := 1) ?_ ?_ (by decide) (by decide) (by decide)
  · refine wide_le h0 (Int.le_of_lt h1) ?_
    rw [big3]; exact big4
  · cases b <;> decide
theorem own_ge {x : Int} {b : Bool} : 0 ≤ x % (10 ^ (60 : Int).toNat) ^ (5 : Int).toNat * (if b then 1 else 0) ∧ x % (10 ^ (60 : Int).toNat) ^ (5 : Int).toNat * (if b then 1 else 0) < 10 ^ 300 := by
  have h0 := Int.emod_nonneg x (Int.ne_of_gt big2)
  have h1 := Int.emod_lt_of_pos x big2
  rw [big3] at h0 h1 ⊢
  cases b
  · simp only [Bool.false_eq_true, if_false, Int.mul_zero]; decide +kernel
  · simp only [if_true, Int.mul_one]; exact ⟨h0, h1⟩
def primes : List Int := [2147483647, 2147483629, 2147483587, 2147483579, 2147483563]
theorem prime_bd {k : Int} (h0 : 0 ≤ k) (h : k < 5) : 0 < primes.getD k.toNat 0 ∧ primes.getD k.toNat 0 < 2147483648 := by
  have := PL.getD_mem (ns := primes) h0 h
  revert this
  generalize primes.getD k.toNat 0 = z
  intro hm
  simp only [primes, List.mem_cons, List.not_mem_nil, or_false] at hm
  omega
theorem sq_bd {a k : Int} (ha : 0 ≤ a) (h0 : 0 ≤ k) (h1 : k ≤ 1001) : 0 ≤ a * k * k ∧ a * k * k ≤ a * 1002001 := by
  have e : a * k * k = a * (k * k) := Int.mul_assoc a k k
  have h2 : k * k ≤ 1001 * 1001 := Int.mul_le_mul h1 h1 h0 (by decide)
  have h3 : 0 ≤ k * k := Int.mul_nonneg h0 h0
  rw [e]
  exact ⟨Int.mul_nonneg ha h3, Int.mul_le_mul_of_nonneg_left h2 ha⟩
theorem cut1_ints (ns : List Int) : cutP (ns.map P.int) none (some 1) = (ns.take 1).map P.int := by
  unfold cutP
  rw [HT.sIx_none, show HT.sIx (ns.map P.int).length (ns.map P.int).length (some 1) = min 1 (ns.map P.int).length from HT.sIx_nat _ _ 1]
  cases ns with
  | nil => rfl
  | cons x r => simp

abbrev N__law_pot : List Str := ["script", "place", "cell", "own", "small"]
theorem sc__law_pot : FnScope N__law_pot ["script", "place"] (defScope s__law_pot) := ⟨rfl, rfl, rfl, by decide +kernel, rfl, by decide +kernel, by decide +kernel⟩
set_option maxHeartbeats 4000000 in
theorem ok__law_pot (G : GF K mg) : Cl P₀ w K mg base 1 "_law_pot" S_law_pot := by
  refine pfn G.d__law_pot sc__law_pot (fun _ _ _ _ _ _ us hl => match us, hl with | [_, _], _ => rfl) (fun qs c Q h => ?_) (fun f cdv A outer s H E hr => ?_)
  · obtain ⟨ns, i, rfl, ⟨hi0, hi1⟩, hQ⟩ := h; rfl
  have hu := hr.units
  refine ⟨_, (pss_cons (ps_set (i := 2) sc__law_pot.nd rfl (Or.inl rfl) (pe_ifExp (pt_cmpR op_lt (pv 1) (pe_callB (call_len_seq' (K := K) rfl) rfl G.b_len boot_len (pa_cons (pv 0) pa_nil)) (nomark _)) (pe_ix (ix_list' (K := K) rfl) (pv 0) (pv 1) (fun _ _ => rfl)) (pe_op op_add (pe_op op_add (pe_op op_mod (pe_callTy call_int1 rfl G.b_int boot_int (pa_cons (pe_callB (cr_sum' (K := K) rfl rfl) rfl G.b_sum boot_sum (pa_cons (pe_slice (sl_list' (K := K) rfl) (pv 0) po_none (po_some pe_int)) pa_nil)) pa_nil)) pe_int) (pe_op op_mul pe_int (pv 1))) pe_int))) (pss_cons (ps_set (i := 3) sc__law_pot.nd rfl (Or.inl rfl) (pe_op op_mulW (pe_op op_mod (pe_callTy call_int1 rfl G.b_int boot_int (pa_cons (pe_callB call_abs rfl G.b_abs boot_abs (pa_cons (pv 2) pa_nil)) pa_nil)) (pe_op op_powW (pe_op op_pow pe_int pe_int) pe_int)) (pe_callTy call_int1 rfl G.b_int boot_int (pa_cons (pe_cmpR op_ge (pe_callB call_abs rfl G.b_abs boot_abs (pa_cons (pv 2) pa_nil)) (pe_op op_pow pe_int pe_int) (nomark _)) pa_nil)))) (pss_cons (ps_set (i := 4) sc__law_pot.nd rfl (Or.inl rfl) (pe_op op_mod (pe_callTy call_int1 rfl G.b_int boot_int (pa_cons (pv 2) pa_nil)) pe_int)) (pss_one (ps_ret (pe_lst (pa_cons (pv 3) (pa_cons (pe_op op_mod (pe_callTy call_int1 rfl G.b_int boot_int (pa_cons (pe_op op_add (pe_op op_add (pe_op op_mul (pv 4) pe_int) (pe_op op_mul (pe_op op_mul pe_int (pv 1)) (pv 1))) pe_int) pa_nil)) pe_int) (pa_cons pe_int pa_nil))))))))), fun qs c Q hS hb => ?_⟩
  obtain ⟨ns, i, rfl, ⟨hi0, hi1⟩, hQ⟩ := hS
  -- statement 1
  refine sw_seq (sw_set (ew_gen (ew_ifI (tw_test (ew_opB (ew_var rfl ⟨_, rfl, (ew_len (ew_var rfl ⟨_, (.l (.klst _)), ⟨_, rfl, ⟨_, rfl, ⟨rfl, rfl⟩⟩⟩⟩))⟩))) (fun hix => (ew_ixL (ew_var rfl (ew_var rfl ⟨_, _, _, (.klst _), rfl, (atI_ints hi0 (by have := of_decide_eq_true hix; rw [List.length_map] at this; exact this)), ⟨rfl, rfl⟩⟩)))) (fun hix => (ew_opI (ew_opI (ew_opC (ew_int1 (ew_sum (ew_slL (ew_var rfl (ow_none (ow_some (ew_int ⟨_, rfl, ⟨_, (.klst _), ⟨(ns.take 1), (LstOf.of (.lst _) (cut1_ints ns)), (.inl ⟨_, rfl, ⟨_, rfl, (ew_int ⟨_, rfl, (by walk_at "pl"), ⟨_, rfl, (ew_opC (ew_int ⟨_, rfl, (ew_var rfl ⟨_, rfl, (by walk_at "pl"), ⟨_, rfl, ⟨_, rfl, (ew_int ⟨_, rfl, ⟨rfl, rfl⟩⟩)⟩⟩⟩)⟩))⟩⟩)⟩⟩)⟩⟩⟩))))))))))) ⟨rfl, rfl⟩) (fun z hz => ?_)))
  -- statement 2
  refine sw_seq (sw_set (ew_gen (ew_opC (ew_opC (ew_int1 (ew_abs (ew_var rfl ⟨_, rfl, (.inl ⟨_, rfl, ⟨_, rfl, (ew_opC (ew_opC (ew_int ⟨_, rfl, (ew_int ⟨_, rfl, ⟨by decide, by decide, by decide⟩, ⟨_, rfl, (ew_int ⟨_, rfl, big1, ⟨_, rfl, big2, ⟨_, rfl, (ew_int1 (ew_opB (ew_abs (ew_var rfl ⟨_, rfl, ⟨_, rfl, (ew_opC (ew_int ⟨_, rfl, (ew_int ⟨_, rfl, ⟨by decide, by decide, by decide⟩, ⟨_, rfl, (.inr ⟨_, rfl, ⟨_, rfl, own_bd, ⟨rfl, rfl⟩⟩⟩)⟩⟩)⟩))⟩⟩))))⟩⟩⟩)⟩⟩)⟩)))⟩⟩)⟩))))) (fun ow how => ?_)))
  -- statement 3
  refine sw_seq (sw_set (ew_gen (ew_opC (ew_int1 (ew_var rfl (.inl ⟨_, rfl, ⟨_, rfl, (ew_int ⟨_, rfl, (by walk_at "pl"), ⟨rfl, rfl⟩⟩)⟩⟩)))) (fun sm hsm => ?_)))
  have h1 : 0 ≤ sm ∧ sm < 2305843009213693951 := by rw [hsm]; exact ⟨Int.emod_nonneg _ (by decide), Int.emod_lt_of_pos _ (by decide)⟩
  have how2 : 0 ≤ ow ∧ ow < 10 ^ 300 := by rw [how]; exact own_ge
  have hii : 0 ≤ i * i ∧ i * i ≤ 9 := ⟨Int.mul_nonneg hi0 hi0, Int.mul_le_mul (a := i) (b := i) (c := 3) (d := 3) (by omega) (by omega) hi0 (by decide)⟩
  -- statement 4
  refine sw_ret (ew_lstC (aw_cons (ew_var rfl (aw_cons (ew_opC (ew_int1 (ew_opI (ew_opI (ew_opC (ew_var rfl ⟨_, rfl, (ew_int ⟨_, rfl, (by walk_at "pl"), ⟨_, rfl, (ew_opC (ew_opC (ew_int ⟨_, rfl, (ew_var rfl ⟨_, rfl, (by walk_at "pl"), ⟨_, rfl, (ew_var rfl ⟨_, rfl, (Or.inr ⟨by omega, by omega⟩), ⟨_, rfl, ⟨_, rfl, (ew_int ⟨_, rfl, (.inl ⟨_, rfl, ⟨_, rfl, (ew_int ⟨_, rfl, (by walk_at "pl"), (aw_cons (ew_int (aw_nil ⟨(by show 3 ≤ 100000; decide), ?_⟩)))⟩)⟩⟩)⟩)⟩⟩⟩)⟩⟩)⟩)))⟩⟩)⟩))))))))))
  refine .inl (hQ _ ⟨_, _, _, rfl, how2, ⟨Int.emod_nonneg _ (by decide), ?_⟩, by decide, by decide⟩)
  refine Int.lt_trans (Int.emod_lt_of_pos _ (by decide)) (by decide)

abbrev N__law_take : List Str := ["pot", "upto", "digit", "prime", "blend"]
theorem sc__law_take : FnScope N__law_take ["pot", "upto"] (defScope s__law_take) := ⟨rfl, rfl, rfl, by decide +kernel, rfl, by decide +kernel, by decide +kernel⟩
set_option maxHeartbeats 4000000 in
theorem ok__law_take (G : GF K mg) : Cl P₀ w K mg base 1 "_law_take" S_law_take := by
  refine pfn G.d__law_take sc__law_take (fun _ _ _ _ _ _ us hl => match us, hl with | [_, _], _ => rfl) (fun qs c Q h => ?_) (fun f cdv A outer s H E hr => ?_)
  · obtain ⟨n, u, k, o, rfl, ⟨hc, ⟨a, b, q, rfl, ⟨ha0, ha1⟩, ⟨hb0, hb1⟩, hq0, hq1⟩, hk⟩, ⟨hu0, hu1⟩, hQ⟩ := h; rfl
  have hu := hr.units
  refine ⟨_, (pss_cons (ps_if (pt_cmpR op_gt (pe_ix (ix_list' (K := K) rfl) (pv 0) pe_int (fun _ _ => rfl)) pe_int (nomark _)) (pss_cons (ps_set (i := 2) sc__law_take.nd rfl (Or.inl rfl) (pe_op op_mod (pe_callTy call_int1 rfl G.b_int boot_int (pa_cons (pe_ix (ix_list' (K := K) rfl) (pv 0) pe_int (fun _ _ => rfl)) pa_nil)) (pv 1))) (pss_cons (ps_asg (pe_op op_fdiv (pe_ix (ix_list' (K := K) rfl) (pv 0) pe_int (fun _ _ => rfl)) (pv 1)) (pg_sub (pv 0) pe_int set_list (fun _ => rfl))) (pss_one (ps_ret (pv 2))))) pss_nil) (pss_cons (ps_asg (pe_op op_add (pe_ix (ix_list' (K := K) rfl) (pv 0) pe_int (fun _ _ => rfl)) pe_int) (pg_sub (pv 0) pe_int set_list (fun _ => rfl))) (pss_cons (ps_set (i := 3) sc__law_take.nd rfl (Or.inl rfl) (pe_ix (ix_list' (K := K) rfl) (pe_lst (pa_cons pe_int (pa_cons pe_int (pa_cons pe_int (pa_cons pe_int (pa_cons pe_int pa_nil)))))) (pe_op op_mod (pe_callTy call_int1 rfl G.b_int boot_int (pa_cons (pe_ix (ix_list' (K := K) rfl) (pv 0) pe_int (fun _ _ => rfl)) pa_nil)) pe_int) (fun _ _ => rfl))) (pss_cons (ps_set (i := 4) sc__law_take.nd rfl (Or.inl rfl) (pe_op op_mod (pe_callTy call_int1 rfl G.b_int boot_int (pa_cons (pe_op op_pow (pe_callTy call_int1 rfl G.b_int boot_int (pa_cons (pe_op op_add (pe_op op_add (pe_ix (ix_list' (K := K) rfl) (pv 0) pe_int (fun _ _ => rfl)) (pe_op op_mul (pe_op op_mul pe_int (pe_ix (ix_list' (K := K) rfl) (pv 0) pe_int (fun _ _ => rfl))) (pe_ix (ix_list' (K := K) rfl) (pv 0) pe_int (fun _ _ => rfl)))) pe_int) pa_nil)) pe_int) pa_nil)) (pv 3))) (pss_cons (ps_set (i := 4) sc__law_take.nd rfl (Or.inl rfl) (pe_op op_mod (pe_callTy call_int1 rfl G.b_int boot_int (pa_cons (pe_op op_mul (pv 4) (pe_op op_add (pe_op op_mod (pe_callTy call_int1 rfl G.b_int boot_int (pa_cons (pv 4) pa_nil)) pe_int) (pe_op op_mul pe_int (pe_ix (ix_list' (K := K) rfl) (pv 0) pe_int (fun _ _ => rfl))))) pa_nil)) pe_int)) (pss_one (ps_ret (pe_op op_mod (pe_callTy call_int1 rfl G.b_int boot_int (pa_cons (pe_op op_fdiv (pv 4) pe_int) pa_nil)) (pv 1))))))))), fun qs c Q hS hb => ?_⟩
  obtain ⟨n, u, k, o, rfl, ⟨hc, ⟨a, b, q, rfl, ⟨ha0, ha1⟩, ⟨hb0, hb1⟩, hq0, hq1⟩, hk⟩, ⟨hu0, hu1⟩, hQ⟩ := hS
  -- statement 1
  refine sw_seq (sw_if (tw_test (ew_opB (ew_ixL (ew_var rfl (ew_int ⟨_, _, _, (.cell hc), rfl, rfl, ⟨_, rfl, (ew_int ⟨_, rfl, ⟨_, rfl, ⟨fun hx1 => ?_, fun hx1 => ?_⟩⟩⟩)⟩⟩))))))
  · try simp only [decide_eq_true_eq, decide_eq_false_iff_not, Bool.or_eq_true, Bool.and_eq_true, Bool.or_eq_false_iff, Bool.and_eq_false_iff, Bool.not_eq_true', Bool.not_eq_false', Bool.not_true, Bool.not_false, Int.not_lt, Int.not_le] at hx1
    -- statement 2
    refine sw_seq (sw_set (ew_opC (ew_int1 (ew_ixL (ew_var rfl (ew_int ⟨_, _, _, (.cell hc), rfl, rfl, (.inl ⟨_, rfl, ⟨_, rfl, (ew_var rfl ⟨_, rfl, hu0, ?_⟩)⟩⟩)⟩))))))
    -- statement 3
    refine sw_seq (sw_asg (ew_opC (ew_ixL (ew_var rfl (ew_int ⟨_, _, _, (.cell hc), rfl, rfl, ⟨_, rfl, (ew_var rfl ⟨_, rfl, ⟨hu0, hu1⟩, (gw_setL (ew_var rfl ⟨_, rfl, (ew_int ⟨_, _, _, rfl, hc, rfl, ?_⟩)⟩))⟩)⟩⟩)))))
    -- statement 4
    refine sw_ret (ew_var rfl ?_)
    refine .inl (hQ _ _ ⟨Int.emod_nonneg _ (Int.ne_of_gt hu0), Int.emod_lt_of_pos _ hu0⟩ ⟨_, _, _, rfl, ⟨Int.ediv_nonneg ha0 (Int.le_of_lt hu0), Int.lt_of_le_of_lt (Int.ediv_le_self _ ha0) ha1⟩, ⟨hb0, hb1⟩, hq0, by omega⟩)
  · try simp only [decide_eq_true_eq, decide_eq_false_iff_not, Bool.or_eq_true, Bool.and_eq_true, Bool.or_eq_false_iff, Bool.and_eq_false_iff, Bool.not_eq_true', Bool.not_eq_false', Bool.not_true, Bool.not_false, Int.not_lt, Int.not_le] at hx1
    refine sw_next ?_
    -- statement 5
    refine sw_seq (sw_asg (ew_opI (ew_ixL (ew_var rfl (ew_int ⟨_, _, _, (.cell hc), rfl, rfl, ⟨_, rfl, (ew_int ⟨_, rfl, (gw_setL (ew_var rfl ⟨_, rfl, (ew_int ⟨_, _, _, rfl, hc, rfl, ?_⟩)⟩))⟩)⟩⟩)))))
    have hc2 := set_get (o' := .lst [.int a, .int b, .int (q + 1)]) hc
    have hsq := sq_bd (a := 94381) (k := q + 1) (by decide) (by omega) (by omega)
    have hp := prime_bd (k := (q + 1) % 5) (Int.emod_nonneg _ (by decide)) (Int.emod_lt_of_pos _ (by decide))
    -- statement 6
    refine sw_seq (sw_set (ew_ixL (ew_lst (aw_cons (ew_int (aw_cons (ew_int (aw_cons (ew_int (aw_cons (ew_int (aw_cons (ew_int (aw_nil ⟨(by show 5 ≤ 100000; decide), (ew_opC (ew_int1 (ew_ixL (ew_var rfl (ew_int ⟨_, _, _, (.cell hc2), rfl, rfl, (.inl ⟨_, rfl, ⟨_, rfl, (ew_int ⟨_, rfl, (by walk_at "pl"), ⟨_, _, _, (.lst _), rfl, (atI_ints (ns := primes) (Int.emod_nonneg _ (by decide)) (Int.emod_lt_of_pos _ (by decide))), ?_⟩⟩)⟩⟩)⟩)))))⟩))))))))))))))
    -- statement 7
    refine sw_seq (sw_set (ew_gen (ew_opC (ew_int1 (ew_opC (ew_int1 (ew_opI (ew_opI (ew_ixL (ew_var rfl (ew_int ⟨_, _, _, (.cell hc2), rfl, rfl, ⟨_, rfl, (ew_opC (ew_opC (ew_int ⟨_, rfl, (ew_ixL (ew_var rfl (ew_int ⟨_, _, _, (.cell hc2), rfl, rfl, ⟨_, rfl, (by walk_at "pl"), ⟨_, rfl, (ew_ixL (ew_var rfl (ew_int ⟨_, _, _, (.cell hc2), rfl, rfl, ⟨_, rfl, (Or.inr ⟨by omega, by omega⟩), ⟨_, rfl, ⟨_, rfl, (ew_int ⟨_, rfl, (.inl ⟨_, rfl, ⟨_, rfl, (ew_int ⟨_, rfl, ⟨by decide, by decide, by omega⟩, (.inl ⟨_, rfl, ⟨_, rfl, (ew_var rfl ⟨_, rfl, hp.1, ⟨rfl, rfl⟩⟩)⟩⟩)⟩)⟩⟩)⟩)⟩⟩⟩⟩)))⟩⟩⟩)))⟩)))⟩⟩))))))))) (fun bl hbl => ?_)))
    have hbl2 : 0 ≤ bl ∧ bl < 2147483648 := by rw [hbl]; exact ⟨Int.emod_nonneg _ (Int.ne_of_gt hp.1), Int.lt_trans (Int.emod_lt_of_pos _ hp.1) hp.2⟩
    -- statement 8
    refine sw_seq (sw_set (ew_gen (ew_opC (ew_int1 (ew_opC (ew_var rfl ⟨_, rfl, (ew_opI (ew_opC (ew_int1 (ew_var rfl (.inl ⟨_, rfl, ⟨_, rfl, (ew_int ⟨_, rfl, (by walk_at "pl"), ⟨_, rfl, (ew_opC (ew_int ⟨_, rfl, (ew_ixL (ew_var rfl (ew_int ⟨_, _, _, (.cell hc2), rfl, rfl, ⟨_, rfl, (by walk_at "pl"), ⟨_, rfl, ⟨_, rfl, (by walk_at "pl"), (.inl ⟨_, rfl, ⟨_, rfl, (ew_int ⟨_, rfl, (by walk_at "pl"), ⟨rfl, rfl⟩⟩)⟩⟩)⟩⟩⟩⟩)))⟩))⟩⟩)⟩⟩)))))⟩)))) (fun bm hbm => ?_)))
    -- statement 9
    refine sw_ret (ew_opC (ew_int1 (ew_opC (ew_var rfl ⟨_, rfl, (ew_int ⟨_, rfl, (by walk_at "pl"), (.inl ⟨_, rfl, ⟨_, rfl, (ew_var rfl ⟨_, rfl, hu0, ?_⟩)⟩⟩)⟩)⟩))))
    refine .inl (hQ _ _ ⟨Int.emod_nonneg _ (Int.ne_of_gt hu0), Int.emod_lt_of_pos _ hu0⟩ ⟨_, _, _, rfl, ⟨ha0, ha1⟩, ⟨hb0, hb1⟩, by omega, by omega⟩)

abbrev N__law_places : List Str := ["script", "most"]
theorem sc__law_places : FnScope N__law_places ["script", "most"] (defScope s__law_places) := ⟨rfl, rfl, rfl, by decide +kernel, rfl, by decide +kernel, by decide +kernel⟩
set_option maxHeartbeats 4000000 in
theorem ok__law_places (G : GF K mg) : Cl P₀ w K mg base 1 "_law_places" S_law_places := by
  refine pfn G.d__law_places sc__law_places (fun _ _ _ _ _ _ us hl => match us, hl with | [_, _], _ => rfl) (fun qs c Q h => ?_) (fun f cdv A outer s H E hr => ?_)
  · obtain ⟨ns, rfl, hlen, hQ⟩ := h; rfl
  have hu := hr.units
  refine ⟨_, (pss_one (ps_ret (pe_listRg rfl rfl G.b_list (prg_1 rfl G.b_range (pe_callB (call_max2 rfl) rfl G.b_max boot_max (pa_cons pe_int (pa_cons (pe_callB (call_min2 rfl) rfl G.b_min boot_min (pa_cons (pv 1) (pa_cons (pe_callB (call_len_seq' (K := K) rfl) rfl G.b_len boot_len (pa_cons (pv 0) pa_nil)) pa_nil))) pa_nil))))))), fun qs c Q hS hb => ?_⟩
  obtain ⟨ns, rfl, hlen, hQ⟩ := hS
  -- statement 1
  refine sw_ret (ew_listRg1 (ew_max2 (aw_cons (ew_int (aw_cons (ew_min2 (aw_cons (ew_var rfl (aw_cons (ew_len (ew_var rfl ⟨_, (.l (.klst _)), (aw_nil ⟨_, _, rfl, (aw_nil ⟨_, _, rfl, ⟨_, rfl, (RgOk.of_le (by decide) (by split <;> (try split) <;> omega) (by decide) (by split <;> (try split) <;> omega)), ?_⟩⟩)⟩)⟩)))))))))))
  rw [List.length_map]
  exact .inl (hQ _ (by omega) (by omega))
end K22

set_option Elab.async false
set_option linter.all false
set_option maxRecDepth 100000
local macro_rules | `(tactic| walk_at "pl") => `(tactic| first | assumption | rfl | omega | exact PL.get_app | exact PL.get_appS | exact ⟨by omega, by omega⟩ | exact Or.inl ⟨by omega, by omega⟩ | exact Or.inr ⟨by omega, by omega⟩ | (show (0 : Int) < _; omega) | decide | (simp only [List.length_cons, List.length_nil]; omega) | (refine ⟨?_, ?_⟩ <;> first | assumption | omega))
local macro_rules | `(tactic| walk_at "pl end") => `(tactic| first | exact .inl hQ | exact rt_is hQ (by simp))
local macro_rules | `(tactic| walk_at "pl dead") => `(tactic| first | omega | (intros; simp_all; done) | (intros; simp_all; omega))
namespace K22
open PySem PySem.Spec PyProof.Rows L2 Evl PL
variable {K : PySem.W.Frag} {P₀ : Program} {w : World} {mg : Str → Option Value} {base : Heap}
theorem IsPot.mono {a b : Nat} {o : Ob} (h : IsPot a o) (hl : a ≤ b) : IsPot b o := by
  obtain ⟨x, y, z, e, h1, h2, h3, h4⟩ := h
  exact ⟨x, y, z, e, h1, h2, h3, by omega⟩
theorem pow_up {i j : Nat} (h : i ≤ j) : (10 : Int) ^ i ≤ 10 ^ j := by
  obtain ⟨d, rfl⟩ := Nat.le.dest h
  induction d with
  | zero => exact Int.le_refl _
  | succ d ih =>
    have := ih (Nat.le_add_right _ _)
    rw [show i + (d + 1) = i + d + 1 from rfl, Int.pow_succ]
    have : (0 : Int) < 10 ^ (i + d) := Int.pow_pos (by decide)
    omega

abbrev N__law_great : List Str := ["pot", "most", "found", "lap"]
theorem sc__law_great : FnScope N__law_great ["pot", "most"] (defScope s__law_great) := ⟨rfl, rfl, rfl, by decide +kernel, rfl, by decide +kernel, by decide +kernel⟩
set_option maxHeartbeats 4000000 in
theorem ok__law_great (G : GF K mg) (c__law_take : Cl P₀ w K mg base 1 "_law_take" S_law_take) : Cl P₀ w K mg base 2 "_law_great" S_law_great := by
  refine pfn G.d__law_great sc__law_great (fun _ _ _ _ _ _ us hl => match us, hl with | [_, _], _ => rfl) (fun qs c Q h => ?_) (fun f cdv A outer s H E hr => ?_)
  · obtain ⟨n, k, o, m, rfl, ⟨hc, ho, hk⟩, ⟨hm1, hm2⟩, hQ⟩ := h; rfl
  have hu := hr.units
  refine ⟨_, (pss_cons (ps_set (i := 2) sc__law_great.nd rfl (Or.inl rfl) (pe_op op_add pe_int (pe_cl c__law_take ⟨rfl, rfl, rfl, rfl, rfl⟩ hr (by omega) rfl (pa_cons (pv 0) (pa_cons pe_int pa_nil))))) (pss_cons (ps_for PassesOwn.never rfl (pi_range1 rfl G.b_range (pa_cons (pe_cl c__law_take ⟨rfl, rfl, rfl, rfl, rfl⟩ hr (by omega) rfl (pa_cons (pv 0) (pa_cons (pv 1) pa_nil))) pa_nil)) (pg_name (i := 3) sc__law_great.nd rfl (Or.inl rfl)) (pss_one (ps_set (i := 2) sc__law_great.nd rfl (Or.inl rfl) (pe_op op_add (pe_op op_mul pe_int (pv 2)) (pe_cl c__law_take ⟨rfl, rfl, rfl, rfl, rfl⟩ hr (by omega) rfl (pa_cons (pv 0) (pa_cons pe_int pa_nil))))))) (pss_one (ps_ret (pe_callTy call_int1 rfl G.b_int boot_int (pa_cons (pv 2) pa_nil)))))), fun qs c Q hS hb => ?_⟩
  obtain ⟨n, k, o, m, rfl, ⟨hc, ho, hk⟩, ⟨hm1, hm2⟩, hQ⟩ := hS
  -- statement 1
  refine sw_seq (sw_set (ew_opI (ew_int ⟨_, rfl, (ew_call (aw_cons (ew_var rfl (aw_cons (ew_int (aw_nil ⟨_, _, _, _, rfl, ⟨hc, ho, by omega⟩, ⟨by decide, by decide⟩, fun r1 o1 hr1 ho1 => ⟨_, rfl, ?_⟩⟩))))))⟩)))
  -- statement 2
  refine sw_seq (sw_for (iw_rng1 (aw_cons (ew_call (aw_cons (ew_var rfl (aw_cons (ew_var rfl (aw_nil ⟨_, _, _, _, rfl, ⟨set_get hc, ho1, by omega⟩, ⟨by omega, by omega⟩, fun r2 o2 hr2 ho2 => (aw_nil ⟨_, rfl, (by walk_at "pl"), ⟨(fun i ρ c' => ∃ (o' : Ob) (f : Int) (y : Option P), c' = c.set n o' ∧ ρ = [some (.cell n), some (.int m), some (.int f), y] ∧ IsPot (k + 2 + i) o' ∧ 1 ≤ f ∧ f < 10 ^ (i + 1)), ⟨o2, _, none, by rw [List.set_set], rfl, ho2, by omega, by show _ < (10 : Int) ^ 1; omega⟩, fun i p ρ' c' hi hP => ?_, fun ρ' c' hP => ?_⟩⟩)⟩)))))))))
  · obtain ⟨o', f, y, rfl, rfl, ho', hf1, hf2⟩ := hP
    have hil : i < (r2 - 0).toNat ∨ i < r2.toNat := by
      have := (List.getElem?_eq_some_iff.mp hi).1
      rw [rangeP_len] at this
      first | exact .inr this | exact .inl this
    obtain ⟨rfl, _⟩ := rangeP_get hi
    refine gw_name ?_
    -- statement 3
    refine sw_set (ew_opI (ew_opC (ew_int ⟨_, rfl, (ew_var rfl ⟨_, rfl, (Or.inl ⟨by decide, by decide⟩), ⟨_, rfl, (ew_call (aw_cons (ew_var rfl (aw_cons (ew_int (aw_nil ⟨_, _, _, _, rfl, ⟨set_get hc, ho', by omega⟩, ⟨by decide, by decide⟩, fun r3 o3 hr3 ho3 => ⟨_, rfl, ?_⟩⟩))))))⟩⟩)⟩)))
    exact ⟨o3, _, _, by rw [List.set_set], rfl, ho3, by omega, by rw [Int.pow_succ]; omega⟩
  · obtain ⟨o', f, y, rfl, rfl, ho', hf1, hf2⟩ := hP
    rw [rangeP_len] at ho' hf2
    have hup := pow_up (show r2.toNat + 1 ≤ m.toNat by omega)
    -- statement 4
    refine sw_ret (ew_int1 (ew_var rfl (.inl ⟨_, rfl, ?_⟩)))
    exact .inl (hQ _ _ ⟨hf1, by omega⟩ (ho'.mono (by omega)))
end K22

set_option Elab.async false
set_option linter.all false
set_option maxRecDepth 100000
local macro_rules | `(tactic| walk_at "pl") => `(tactic| first | assumption | rfl | omega | exact PL.get_app | exact PL.get_appS | exact ⟨by omega, by omega⟩ | exact Or.inl ⟨by omega, by omega⟩ | exact Or.inr ⟨by omega, by omega⟩ | (show (0 : Int) < _; omega) | decide | (simp only [List.length_cons, List.length_nil]; omega) | (refine ⟨?_, ?_⟩ <;> first | assumption | omega))
local macro_rules | `(tactic| walk_at "pl end") => `(tactic| first | exact .inl hQ | exact rt_is hQ (by simp))
local macro_rules | `(tactic| walk_at "pl dead") => `(tactic| first | omega | (intros; simp_all; done) | (intros; simp_all; omega))
namespace K22
open PySem PySem.Spec PyProof.Rows L2 Evl PL
variable {K : PySem.W.Frag} {P₀ : Program} {w : World} {mg : Str → Option Value} {base : Heap}
theorem set_same {c : List Ob} {n : Nat} {o : Ob} (h : c[n]? = some o) : c.set n o = c := by
  refine List.ext_getElem? fun i => ?_
  rw [List.getElem?_set]
  split
  · rename_i e
    subst e
    rw [if_pos (List.getElem?_eq_some_iff.mp h).1, h]
  · rfl
section
variable {c : List Ob} {n : Nat} {o o' o1 : Ob} {x y x' y' : Ob} {ex : List Ob}
theorem pA : (c.set n o' ++ [x, y])[c.length]? = some x := by have := get2a (c := c.set n o') (a := x) (b := y); rw [List.length_set] at this; exact this
theorem pB : (c.set n o' ++ [x, y])[c.length + 1]? = some y := by have := get2b (c := c.set n o') (a := x) (b := y); rw [List.length_set] at this; exact this
theorem qA : (c.set n o' ++ [x, y]).set c.length x' = c.set n o' ++ [x', y] := by have := set2a (c := c.set n o') (a := x) (b := y) (a' := x'); rw [List.length_set] at this; exact this
theorem qB : (c.set n o' ++ [x, y]).set (c.length + 1) y' = c.set n o' ++ [x, y'] := by have := set2b (c := c.set n o') (a := x) (b := y) (b' := y'); rw [List.length_set] at this; exact this
theorem pN (h : c[n]? = some o) : (c.set n o' ++ ex)[n]? = some o' := by
  have hl := (List.getElem?_eq_some_iff.mp h).1
  rw [List.getElem?_append_left (by rw [List.length_set]; exact hl)]
  exact set_get h
theorem qN (h : c[n]? = some o) : (c.set n o' ++ ex).set n o1 = c.set n o1 ++ ex := by
  have hl := (List.getElem?_eq_some_iff.mp h).1
  rw [List.set_append_left _ _ (by rw [List.length_set]; exact hl), List.set_set]
theorem pA2 (h : c[n]? = some o) : ((c.set n o' ++ [x, y]).set n o1)[c.length]? = some x := by rw [qN h]; exact pA
theorem pB3 (h : c[n]? = some o) : (((c.set n o' ++ [x, y]).set n o1).set c.length x')[c.length + 1]? = some y := by rw [qN h, qA]; exact pB
theorem qZ (h : c[n]? = some o) : (((c.set n o' ++ [x, y]).set n o1).set c.length x').set (c.length + 1) y' = c.set n o1 ++ [x', y'] := by rw [qN h, qA, qB]
theorem bel_pot {k m : Nat} (h : IsPot k o) : Ob.bel m o = true := by
  obtain ⟨a, b, q, rfl, _⟩ := h
  rfl
theorem bel_set {m : Nat} (hb : ∀ o ∈ c, Ob.bel m o = true) (ho : Ob.bel m o' = true) : ∀ o ∈ c.set n o', Ob.bel m o = true := fun z hz => by
  rcases List.mem_or_eq_of_mem_set hz with e | e
  · exact hb z e
  · rw [e]; exact ho
theorem rt_appS {k : Nat} {Q : PQ} {p : P} (hb : ∀ o ∈ c, Ob.bel c.length o = true) (ho : IsPot k o') (hp : ∀ m, p.bel m = true) (q : Q p (c.set n o')) : RtOk c Q p (c.set n o' ++ ex) :=
  .inr ⟨c.set n o', ex, rfl, by rw [List.length_set]; exact Nat.le_refl _, by rw [List.length_set]; exact bel_set hb (bel_pot ho), hp _, q⟩
end
theorem ew_popI {K : PySem.W.Frag} {c : List Ob} {ρ : PR} {Q : PQ} {te to : TE} (h : EW K to ρ c fun p c1 => ∃ n x0, p = .cell n ∧ c1[n]? = some (.lst x0) ∧ EW K te ρ c1 fun q c2 => ∃ (xs : List P) (z : Int) (y : P), q = .int z ∧ c2[n]? = some (.lst xs) ∧ (0 ≤ z ∧ z < 2 ^ 62) ∧ xs[z.toNat]? = some y ∧ Q y (c2.set n (.lst (xs.eraseIdx z.toNat)))) : EW K (tBM K "list" rPopAt to (tCons te tNil)) ρ c Q :=
  ew_popAt (h.mono fun p c1 ⟨n, x0, e, hc, h2⟩ => ⟨n, x0, e, hc, h2.mono fun q c2 ⟨xs, z, y, e2, h3, ⟨h4, h5⟩, h6, h7⟩ => ⟨xs, z.toNat, y, by rw [e2]; congr 1; omega, h3, by omega, h6, h7⟩⟩)
theorem pop_get {rs : List Int} {z : Int} (h : 0 ≤ z ∧ z < ((rs.map P.int).length : Int)) : (rs.map P.int)[z.toNat]? = some (.int (rs.getD z.toNat 0)) := by
  rw [List.length_map] at h
  rw [List.getElem?_map, List.getD_eq_getElem?_getD, List.getElem?_eq_getElem (by omega)]; rfl
theorem erase_perm : ∀ (rs : List Int) (j : Nat) (hj : j < rs.length), (rs[j] :: rs.eraseIdx j).Perm rs
  | x :: rs, 0, _ => List.Perm.refl _
  | x :: rs, j + 1, hj => by
    have h := erase_perm rs j (by simpa using hj)
    exact (List.Perm.swap x _ _).trans (h.cons x)
theorem pop_perm {rs fs ns : List Int} {j : Nat} (hj : j < rs.length) (h : (rs ++ fs).Perm ns) : (rs.eraseIdx j ++ (fs ++ [rs.getD j 0])).Perm ns := by
  refine List.Perm.trans ?_ h
  have e : rs.getD j 0 = rs[j] := by rw [List.getD_eq_getElem?_getD, List.getElem?_eq_getElem hj]; rfl
  rw [e]
  have h1 : (rs[j] :: rs.eraseIdx j).Perm rs := erase_perm rs j hj
  refine List.Perm.trans ?_ (h1.append_right fs)
  rw [List.cons_append, ← List.append_assoc]
  exact List.perm_append_comm
theorem erase_ints (rs : List Int) (j : Nat) : (rs.map P.int).eraseIdx j = (rs.eraseIdx j).map P.int := by
  rw [List.eraseIdx_eq_take_drop_succ, List.eraseIdx_eq_take_drop_succ, List.map_append, List.map_take, List.map_drop]
theorem pow_items : [P.int 1, .int 2, .int 4, .int 8, .int 16, .int 32, .int 64, .int 128, .int 256, .int 512] = (List.range 10).map fun k => P.int (Moore.pw k) := rfl

abbrev N__law_some : List Str := ["pot", "pool", "many", "rests", "found", "lap"]
theorem sc__law_some : FnScope N__law_some ["pot", "pool", "many"] (defScope s__law_some) := ⟨rfl, rfl, rfl, by decide +kernel, rfl, by decide +kernel, by decide +kernel⟩
set_option maxHeartbeats 4000000 in
theorem ok__law_some (G : GF K mg) (c__law_take : Cl P₀ w K mg base 1 "_law_take" S_law_take) : Cl P₀ w K mg base 2 "_law_some" S_law_some := by
  refine pfn G.d__law_some sc__law_some (fun _ _ _ _ _ _ us hl => match us, hl with | [_, _, _], _ => rfl) (fun qs c Q h => ?_) (fun f cdv A outer s H E hr => ?_)
  · obtain ⟨n, s, ns, k, o, rfl, hsq, ⟨hc, ho, hk⟩, hns, hQ⟩ := h; rfl
  have hu := hr.units
  refine ⟨_, (pss_cons (ps_par (i := 3) (j := 4) rfl sc__law_some.nd rfl rfl (by decide) rfl rfl (pa_cons (pe_callTy (call_list_of' (K := K) rfl) rfl G.b_list boot_list (pa_cons (pv 1) pa_nil)) (pa_cons (pe_lst pa_nil) pa_nil)) rfl) (pss_cons (ps_for PassesOwn.never rfl (pi_range1 rfl G.b_range (pa_cons (pv 2) pa_nil)) (pg_name (i := 5) sc__law_some.nd rfl (Or.inl rfl)) (pss_one (ps_expr (pe_bm' (K := K) rfl PySem.F.plainAttrs_list PySem.F.slot_list_append PySem.F.type_list_append mt_append (pv 4) (pa_cons (pe_bm' (K := K) rfl PySem.F.plainAttrs_list PySem.F.slot_list_pop PySem.F.type_list_pop mt_popAt (pv 3) (pa_cons (pe_cl c__law_take ⟨rfl, rfl, rfl, rfl, rfl⟩ hr (by omega) rfl (pa_cons (pv 0) (pa_cons (pe_callB (call_len_seq' (K := K) rfl) rfl G.b_len boot_len (pa_cons (pv 3) pa_nil)) pa_nil))) pa_nil)) pa_nil))))) (pss_one (ps_ret (pv 4))))), fun qs c Q hS hb => ?_⟩
  obtain ⟨n, s, ns, k, o, rfl, hsq, ⟨hc, ho, hk⟩, hns, hQ⟩ := hS
  -- statement 1
  refine sw_seq (sw_par (aw_cons (ew_listOfC (ew_var rfl ⟨_, (hsq c), (aw_cons (ew_lstC (aw_nil ⟨(by show 0 ≤ 100000; decide), (aw_nil ⟨_, _, rfl, ?_⟩)⟩)))⟩))))
  -- statement 2
  refine sw_seq (sw_for (iw_rng1 (aw_cons (ew_var rfl (aw_nil ⟨_, rfl, ⟨by omega, by omega⟩, ⟨(fun i ρ c' => ∃ (o' : Ob) (rs fs : List Int) (y : Option P), c' = c.set n o' ++ [.lst (rs.map P.int), .lst (fs.map P.int)] ∧ ρ = [some (.cell n), some s, some (.int (ns.length : Int)), some (.cell c.length), some (.cell (c.length + 1)), y] ∧ IsPot (k + i) o' ∧ (rs ++ fs).Perm ns ∧ rs.length + i = ns.length ∧ fs.length = i), ⟨o, ns, [], none, by rw [set_same hc]; simp, by simp; rfl, ho, by rw [List.append_nil], rfl, rfl⟩, fun i p ρ' c' hi hP => ?_, fun ρ' c' hP => ?_⟩⟩)))))
  · obtain ⟨o', rs, fs, y, rfl, rfl, ho', hpm, hle, hfl⟩ := hP
    have hil : i < ns.length := by
      have := (List.getElem?_eq_some_iff.mp hi).1
      rw [rangeP_len] at this
      first | exact (by omega)
    obtain ⟨rfl, _⟩ := rangeP_get hi
    have hrl : (rs.map P.int).length = rs.length := List.length_map ..
    have hsz : (fs.map P.int).length < 100000 := by rw [List.length_map]; omega
    refine gw_name ?_
    -- statement 3
    refine sw_drop (ew_app (ew_var rfl ⟨_, _, rfl, pB, (ew_popI (ew_var rfl ⟨_, _, rfl, pA, (ew_call (aw_cons (ew_var rfl (aw_cons (ew_len (ew_var rfl ⟨_, (.l (.cell pA)), (aw_nil ⟨_, _, _, _, rfl, ⟨pN hc, ho', by omega⟩, ⟨by omega, by omega⟩, fun r1 o1 hr1 ho1 => ⟨_, _, _, rfl, pA2 hc, ⟨hr1.1, by omega⟩, pop_get hr1, ⟨_, pB3 hc, hsz, ?_⟩⟩⟩)⟩))))))⟩))⟩))
    refine ⟨o1, rs.eraseIdx r1.toNat, fs ++ [rs.getD r1.toNat 0], _, ?_, rfl, ho1, pop_perm (by omega) hpm, ?_, by rw [List.length_append, hfl]; rfl⟩
    · rw [qZ hc, erase_ints, List.map_append]; rfl
    · rw [List.length_eraseIdx_of_lt (by omega)]; omega
  · obtain ⟨o', rs, fs, y, rfl, rfl, ho', hpm, hle, hfl⟩ := hP
    rw [rangeP_len] at ho' hle hfl
    have hr0 : rs = [] := List.eq_nil_of_length_eq_zero (by omega)
    subst hr0
    refine sw_freeze (i := 4) (n := c.length + 1) rfl pB ?_
    rw [qB]
    -- statement 4
    refine sw_ret (ew_var rfl ?_)
    refine rt_appS hb ho' (fun m => bels_ints m _) (hQ fs o' hpm (ho'.mono (by omega)))

abbrev N__law_rests : List Str := ["heaps", "many", "places", "place", "heap"]
theorem sc__law_rests : FnScope N__law_rests ["heaps", "many"] (defScope s__law_rests) := ⟨rfl, rfl, rfl, by decide +kernel, rfl, by decide +kernel, by decide +kernel⟩
set_option maxHeartbeats 4000000 in
theorem ok__law_rests (G : GF K mg) : Cl P₀ w K mg base 1 "_law_rests" S_law_rests := by
  refine pfn G.d__law_rests sc__law_rests (fun _ _ _ _ _ _ us hl => match us, hl with | [_, _], _ => rfl) (fun qs c Q h => ?_) (fun f cdv A outer s H E hr => ?_)
  · obtain ⟨hs, m, rfl, ⟨hl, hm1, hm2⟩, hQ⟩ := h; rfl
  have hu := hr.units
  refine ⟨_, (pss_cons (ps_set (i := 2) sc__law_rests.nd rfl (Or.inl rfl) (pe_tup (pa_cons pe_int (pa_cons pe_int (pa_cons pe_int (pa_cons pe_int (pa_cons pe_int (pa_cons pe_int (pa_cons pe_int (pa_cons pe_int (pa_cons pe_int (pa_cons pe_int pa_nil)))))))))))) (pss_one (ps_ret (pe_lc (own := [("place", 3)]) rfl sc__law_rests.nd (pi_tup' (K := K) rfl (pv 2)) (blkOk_by (N := N__law_rests) (sc := defScope s__law_rests) (by decide +kernel)) (fun _ _ _ _ _ => (pg_name (i := 3) sc__law_rests.nd rfl (by first | exact Or.inl rfl | exact Or.inr rfl))) (fun _ _ _ _ _ => pts_nil) (fun _ _ _ _ _ => (pe_op op_mod (pe_callB (cr_sum' (K := K) rfl rfl) rfl G.b_sum boot_sum (pa_cons (pe_lc (own := [("heap", 4)]) rfl sc__law_rests.nd (pi_list' (K := K) rfl (pv 0)) (blkOk_by (by kernel_rfl)) (fun _ _ _ _ _ => (pg_name (i := 4) sc__law_rests.nd rfl (by first | exact Or.inl rfl | exact Or.inr rfl))) (fun _ _ _ _ _ => pts_nil) (fun _ _ _ _ _ => (pe_op op_mod (pe_op op_fdiv (pv 4) (pv 3)) pe_int))) pa_nil)) (pe_op op_add (pv 1) pe_int))))))), fun qs c Q hS hb => ?_⟩
  obtain ⟨hs, m, rfl, ⟨hl, hm1, hm2⟩, hQ⟩ := hS
  -- statement 1
  refine sw_seq (sw_set (ew_tup (aw_cons (ew_int (aw_cons (ew_int (aw_cons (ew_int (aw_cons (ew_int (aw_cons (ew_int (aw_cons (ew_int (aw_cons (ew_int (aw_cons (ew_int (aw_cons (ew_int (aw_cons (ew_int (aw_nil ⟨(by show 10 ≤ 100000; decide), ?_⟩)))))))))))))))))))))))
  -- statement 2
  refine sw_ret (ew_lcM (fun k => P.int (Moore.pw k)) (List.range 10) (fun k => P.int ((hs.map fun x => x / Moore.pw k % 2).sum % (m + 1))) (gc_name (by decide)) (iw_tup (ew_var rfl ⟨_, rfl, ⟨pow_items, rfl⟩⟩)) (by show 10 ≤ 100000; decide) (fun x hx => have hx := pw_le (List.mem_range.mp hx); have hx0 := Moore.pw_pos x; gw_name ⟨rfl, (tw_yes ⟨rfl, rfl⟩), fun hf => (ew_opC (ew_sum (ew_lcM P.int hs (fun z => P.int (z / Moore.pw x % 2)) (gc_name (by decide)) (iw_list (ew_var rfl ⟨_, rfl, ⟨rfl, rfl⟩⟩)) (by omega) (fun x hx => gw_name ⟨rfl, (tw_yes ⟨rfl, rfl⟩), fun hf => (ew_opC (ew_opC (ew_var rfl ⟨_, rfl, (ew_var rfl ⟨_, rfl, ⟨hx0, show Moore.pw _ < 1073741824 by omega⟩, ⟨_, rfl, (ew_int ⟨_, rfl, (by walk_at "pl"), ⟨rfl, rfl⟩⟩)⟩⟩)⟩)))⟩) ⟨(hs.map fun z => z / Moore.pw x % 2), (LstOf.of (.lst _) (by rw [List.map_map]; rfl)), ⟨_, rfl, (ew_opI (ew_var rfl ⟨_, rfl, (ew_int ⟨_, rfl, ⟨_, rfl, (by walk_at "pl"), ⟨rfl, rfl⟩⟩⟩)⟩))⟩⟩)))⟩) ?_)
  refine .inl ?_
  rw [List.map_map] at hQ
  exact hQ
end K22

set_option Elab.async false
set_option linter.all false
set_option maxRecDepth 100000
local macro_rules | `(tactic| walk_at "pl") => `(tactic| first | assumption | rfl | omega | exact PL.get_app | exact PL.get_appS | exact ⟨by omega, by omega⟩ | exact Or.inl ⟨by omega, by omega⟩ | exact Or.inr ⟨by omega, by omega⟩ | (show (0 : Int) < _; omega) | decide | (simp only [List.length_cons, List.length_nil]; omega) | (refine ⟨?_, ?_⟩ <;> first | assumption | omega))
local macro_rules | `(tactic| walk_at "pl end") => `(tactic| first | exact .inl hQ | exact rt_is hQ (by simp))
local macro_rules | `(tactic| walk_at "pl dead") => `(tactic| first | omega | (intros; simp_all; done) | (intros; simp_all; omega))
namespace K22
open PySem PySem.Spec PyProof.Rows L2 Evl PL
variable {K : PySem.W.Frag} {P₀ : Program} {w : World} {mg : Str → Option Value} {base : Heap}
theorem good_is (a b : Int) : goodL a b = Gold.gd a b := rfl
theorem goodz_nil {n a b : Int} (h : 0 ≤ n) (hab : a = Ai n ∧ b = Ai n + n ∨ a = Ai n + n ∧ b = Ai n) {zs : List (Int × Int)} (g : GoodZ a b zs) : zs = [] := by
  unfold GoodZ at g
  rcases hab with ⟨rfl, rfl⟩ | ⟨rfl, rfl⟩
  · rw [if_pos (show pairB (Ai n) (Ai n + n) = true from Gold.pr_of h)] at g
    exact g
  · rw [if_pos (show pairB (Ai n + n) (Ai n) = true from Gold.pr_of' h)] at g
    exact g
theorem goodz_some {a b : Int} (hp : pairB a b = false) {zs : List (Int × Int)} (g : GoodZ a b zs) : (∀ z, z ∈ zs ↔ z ∈ Gold.gd a b) ∧ zs.Nodup ∧ zs.Pairwise (fun x y => cdP (10 ^ 14) x ≤ cdP (10 ^ 14) y) := by
  unfold GoodZ at g
  rw [if_neg (by rw [hp]; decide)] at g
  exact g
theorem eqv_two (a b c d : Int) : PyData.eqv (P.tup [.int a, .int b]).toD (P.tup [.int c, .int d]).toD = (decide (a = c) && decide (b = d)) := by
  have e := eqv_tup [a, b] [c, d]
  refine e.trans ?_
  rw [← Bool.decide_and]
  congr 1
  refine propext ⟨fun z => ?_, fun ⟨z1, z2⟩ => by rw [z1, z2]⟩
  injection z with z1 z2
  injection z2 with z2 _
  exact ⟨z1, z2⟩
theorem cd_inj {x y : Int × Int} (hx : (0 ≤ x.1 ∧ x.1 < 10 ^ 14) ∧ 0 ≤ x.2 ∧ x.2 < 10 ^ 14) (hy : (0 ≤ y.1 ∧ y.1 < 10 ^ 14) ∧ 0 ≤ y.2 ∧ y.2 < 10 ^ 14) (h : cdP (10 ^ 14) x = cdP (10 ^ 14) y) : x = y := by
  obtain ⟨x1, x2⟩ := x
  obtain ⟨y1, y2⟩ := y
  unfold cdP at h
  dsimp only at *
  have : x1 = y1 ∧ x2 = y2 := by omega
  rw [this.1, this.2]
theorem gd_bd {a b : Int} (ha : 0 ≤ a ∧ a ≤ 10 ^ 12) (hb : 0 ≤ b ∧ b ≤ 10 ^ 12) {z : Int × Int} (h : z ∈ Gold.gd a b) : (0 ≤ z.1 ∧ z.1 < 10 ^ 14) ∧ 0 ≤ z.2 ∧ z.2 < 10 ^ 14 := by
  have h1 := Gold.gd_nn ha.1 hb.1 h
  have h2 := (Gold.mem_gd.mp h).2
  exact ⟨⟨h1.1, by omega⟩, h1.2, by omega⟩
def flip (z : Int × Int) : Int × Int := (z.2, z.1)
theorem goodz_flip {a b : Int} (ha : 0 ≤ a ∧ a ≤ 10 ^ 12) (hb : 0 ≤ b ∧ b ≤ 10 ^ 12) (hp : pairB a b = false) {zs ws vs : List (Int × Int)} (g : GoodZ a b zs) (g2 : GoodZ b a ws) (hv : vs.Perm (zs.map flip)) (hs : vs.Pairwise fun x y => cdP (10 ^ 14) x ≤ cdP (10 ^ 14) y) : vs = ws := by
  obtain ⟨g1, g3, _⟩ := goodz_some hp g
  have hp2 : pairB b a = false := by rw [← hp]; exact (Gold.pr_comm a b).symm
  obtain ⟨k1, k3, k4⟩ := goodz_some hp2 g2
  have mv : ∀ x, x ∈ vs ↔ x ∈ Gold.gd b a := fun x => by
    rw [hv.mem_iff, List.mem_map, Gold.gd_swap]
    constructor
    · rintro ⟨z, hz, rfl⟩
      exact (g1 z).mp hz
    · intro h
      exact ⟨(x.2, x.1), (g1 _).mpr h, rfl⟩
  refine Gold.sorted_eq (cdP (10 ^ 14)) (fun x hx y hy e => ?_) ?_ k3 hs k4 (fun x => ?_)
  · exact cd_inj (gd_bd hb ha ((mv x).mp hx)) (gd_bd hb ha ((k1 y).mp hy)) e
  · refine (hv.nodup_iff).mpr ?_
    refine List.pairwise_map.mpr (g3.imp fun {x y} hne e => hne ?_)
    unfold flip at e
    injection e with e1 e2
    exact Prod.ext e2 e1
  · rw [mv, k1]
theorem rev_pair (z : Int × Int) : (P.tup [P.int z.1, P.int z.2].reverse) = pairI (flip z) := rfl
theorem gd_len {a b : Int} {zs : List (Int × Int)} (hn : zs.Nodup) (h : ∀ z, z ∈ zs ↔ z ∈ Gold.gd a b) : zs.length ≤ 3 := by
  have h1 : zs.length ≤ (Gold.gd a b).length := hn.length_le_of_subset fun z hz => (h z).mp hz
  have h2 : (Gold.gd a b).length ≤ 3 := List.length_filter_le _ _
  omega

abbrev N__law_are_golden_right : List Str := ["pot", "number", "low", "high", "later", "one", "other", "more", "some", "mine", "its", "left", "is_move", "pair"]
theorem sc__law_are_golden_right : FnScope N__law_are_golden_right ["pot"] (defScope s__law_are_golden_right) := ⟨rfl, rfl, rfl, by decide +kernel, rfl, by decide +kernel, by decide +kernel⟩
set_option maxHeartbeats 4000000 in
theorem ok__law_are_golden_right (G : GF K mg) (c__law_great : Cl P₀ w K mg base 2 "_law_great" S_law_great) (c_wythoff : Cl P₀ w K mg base 3 "wythoff" S_wythoff) (c_two_good : Cl P₀ w K mg base 4 "two_good" S_two_good) (c_two_win : Cl P₀ w K mg base 4 "two_win" S_two_win) (c__law_take : Cl P₀ w K mg base 1 "_law_take" S_law_take) : Cl P₀ w K mg base 5 "_law_are_golden_right" S_law_are_golden_right := by
  refine pfn G.d__law_are_golden_right sc__law_are_golden_right (fun _ _ _ _ _ _ us hl => match us, hl with | [_], _ => rfl) (fun qs c Q h => ?_) (fun f cdv A outer s H E hr => ?_)
  · obtain ⟨n, k, o, rfl, ⟨hc, ho, hk⟩, hQ⟩ := h; rfl
  have hu := hr.units
  refine ⟨_, (pss_cons (ps_set (i := 1) sc__law_are_golden_right.nd rfl (Or.inl rfl) (pe_op op_mod (pe_cl c__law_great ⟨rfl, rfl, rfl, rfl, rfl⟩ hr (by omega) rfl (pa_cons (pv 0) (pa_cons pe_int pa_nil))) (pe_op op_pow pe_int pe_int))) (pss_cons (ps_asg (pe_cl c_wythoff ⟨rfl, rfl, rfl, rfl, rfl⟩ hr (by omega) rfl (pa_cons (pv 1) pa_nil)) (pg_tup' (K := K) rfl rfl (pgs_cons (pg_name (i := 2) sc__law_are_golden_right.nd rfl (Or.inl rfl)) (pgs_cons (pg_name (i := 3) sc__law_are_golden_right.nd rfl (Or.inl rfl)) pgs_nil)))) (pss_cons (ps_if (PW.pt (pw_or (pt_cmpR op_ne (pv 3) (pe_op op_add (pv 2) (pv 1)) (nomark _)) (pw_or1 (pt_cmpR op_ne (pe_ix (ix_tup' (K := K) rfl) (pe_cl c_wythoff ⟨rfl, rfl, rfl, rfl, rfl⟩ hr (by omega) rfl (pa_cons (pv 3) pa_nil)) pe_int (fun _ _ => rfl)) (pe_op op_add (pv 2) (pv 3)) (nomark _))))) (pss_one (ps_ret pe_bl)) pss_nil) (pss_cons (ps_if (PW.pt (pw_and (pt_cmpR op_gt (pv 1) pe_int (nomark _)) (pw_and1 (pt_cmpR op_ne (pe_ix (ix_tup' (K := K) rfl) (pe_cl c_wythoff ⟨rfl, rfl, rfl, rfl, rfl⟩ hr (by omega) rfl (pa_cons (pv 2) pa_nil)) pe_int (fun _ _ => rfl)) (pe_op op_sub (pv 3) pe_int) (nomark _))))) (pss_one (ps_ret pe_bl)) pss_nil) (pss_cons (ps_set (i := 4) sc__law_are_golden_right.nd rfl (Or.inl rfl) (pe_cl c_wythoff ⟨rfl, rfl, rfl, rfl, rfl⟩ hr (by omega) rfl (pa_cons (pe_op op_add (pv 1) pe_int) pa_nil))) (pss_cons (ps_if (PW.pt (pw_or (pt_cmpR (op_notIn_seq' (K := K) rfl) (pe_op op_sub (pe_ix (ix_tup' (K := K) rfl) (pv 4) pe_int (fun _ _ => rfl)) (pv 2)) (pe_tup (pa_cons pe_int (pa_cons pe_int pa_nil))) rfl) (pw_or1 (pt_cmpR (op_notIn_seq' (K := K) rfl) (pe_op op_sub (pe_ix (ix_tup' (K := K) rfl) (pv 4) pe_int (fun _ _ => rfl)) (pv 3)) (pe_tup (pa_cons pe_int (pa_cons pe_int pa_nil))) rfl)))) (pss_one (ps_ret pe_bl)) pss_nil) (pss_cons (ps_for PassesOwn.never rfl (pi_tup' (K := K) rfl (pe_tup (pa_cons (pe_tup (pa_cons (pv 2) (pa_cons (pv 3) pa_nil))) (pa_cons (pe_tup (pa_cons (pv 3) (pa_cons (pv 2) pa_nil))) pa_nil)))) (pg_tup' (K := K) rfl rfl (pgs_cons (pg_name (i := 5) sc__law_are_golden_right.nd rfl (Or.inl rfl)) (pgs_cons (pg_name (i := 6) sc__law_are_golden_right.nd rfl (Or.inl rfl)) pgs_nil))) (pss_one (ps_if (PW.pt (pw_or (pt_cmpR op_notBl (pe_cl c_two_win ⟨rfl, rfl, rfl, rfl, rfl⟩ hr (by omega) rfl (pa_cons (pv 5) (pa_cons (pv 6) pa_nil))) pe_bl (nomark _)) (pw_or1 (pt_cmpR (op_neD' (K := K) rfl hu) (pe_cl c_two_good ⟨rfl, rfl, rfl, rfl, rfl⟩ hr (by omega) rfl (pa_cons (pv 5) (pa_cons (pv 6) pa_nil))) (pe_tup pa_nil) (nomark _))))) (pss_one (ps_ret pe_bl)) pss_nil))) (pss_cons (ps_set (i := 7) sc__law_are_golden_right.nd rfl (Or.inl rfl) (pe_op op_add pe_int (pe_cl c__law_take ⟨rfl, rfl, rfl, rfl, rfl⟩ hr (by omega) rfl (pa_cons (pv 0) (pa_cons pe_int pa_nil))))) (pss_cons (ps_for PassesOwn.never rfl (pi_tup' (K := K) rfl (pe_tup (pa_cons (pe_tup (pa_cons (pe_op op_add (pv 2) (pv 7)) (pa_cons (pv 3) pa_nil))) (pa_cons (pe_tup (pa_cons (pv 2) (pa_cons (pe_op op_add (pv 3) (pv 7)) pa_nil))) (pa_cons (pe_tup (pa_cons (pe_op op_add (pv 2) (pv 7)) (pa_cons (pe_op op_add (pv 3) (pv 7)) pa_nil))) pa_nil))))) (pg_tup' (K := K) rfl rfl (pgs_cons (pg_name (i := 5) sc__law_are_golden_right.nd rfl (Or.inl rfl)) (pgs_cons (pg_name (i := 6) sc__law_are_golden_right.nd rfl (Or.inl rfl)) pgs_nil))) (pss_cons (ps_if (pt_cmpR (op_eqD' (K := K) rfl hu) (pe_tup (pa_cons (pe_callB (call_min2 rfl) rfl G.b_min boot_min (pa_cons (pv 5) (pa_cons (pv 6) pa_nil))) (pa_cons (pe_callB (call_max2 rfl) rfl G.b_max boot_max (pa_cons (pv 5) (pa_cons (pv 6) pa_nil))) pa_nil))) (pe_cl c_wythoff ⟨rfl, rfl, rfl, rfl, rfl⟩ hr (by omega) rfl (pa_cons (pe_callB call_abs rfl G.b_abs boot_abs (pa_cons (pe_op op_sub (pv 6) (pv 5)) pa_nil)) pa_nil)) (nomark _)) (pss_one ps_continue) pss_nil) (pss_cons (ps_set (i := 8) sc__law_are_golden_right.nd rfl (Or.inl rfl) (pe_cl c_two_good ⟨rfl, rfl, rfl, rfl, rfl⟩ hr (by omega) rfl (pa_cons (pv 5) (pa_cons (pv 6) pa_nil)))) (pss_cons (ps_if (PW.pt (pw_or (pt_cmpR op_notBl (pe_cl c_two_win ⟨rfl, rfl, rfl, rfl, rfl⟩ hr (by omega) rfl (pa_cons (pv 5) (pa_cons (pv 6) pa_nil))) pe_bl (nomark _)) (pw_or (pt_cmpR op_notBl (pe_cl c_two_win ⟨rfl, rfl, rfl, rfl, rfl⟩ hr (by omega) rfl (pa_cons (pv 6) (pa_cons (pv 5) pa_nil))) pe_bl (nomark _)) (pw_or1 (pt_cmpR (op_eqD' (K := K) rfl hu) (pv 8) (pe_tup pa_nil) (nomark _)))))) (pss_one (ps_ret pe_bl)) pss_nil) (pss_cons (ps_for PassesOwn.never rfl (pi_tup' (K := K) rfl (pv 8)) (pg_tup' (K := K) rfl rfl (pgs_cons (pg_name (i := 9) sc__law_are_golden_right.nd rfl (Or.inl rfl)) (pgs_cons (pg_name (i := 10) sc__law_are_golden_right.nd rfl (Or.inl rfl)) pgs_nil))) (pss_cons (ps_set (i := 11) sc__law_are_golden_right.nd rfl (Or.inl rfl) (pe_tup (pa_cons (pe_op op_sub (pv 5) (pv 9)) (pa_cons (pe_op op_sub (pv 6) (pv 10)) pa_nil)))) (pss_cons (ps_set (i := 12) sc__law_are_golden_right.nd rfl (Or.inl rfl) (pe_or (pe_and (pe_cmpR op_eq (pe_callB (cr_minT (K := K) rfl rfl) rfl G.b_min boot_min (pa_cons (pv 11) pa_nil)) pe_int (nomark _)) (pe_one (pe_cmpR op_gt (pe_callB (cr_maxT (K := K) rfl rfl) rfl G.b_max boot_max (pa_cons (pv 11) pa_nil)) pe_int (nomark _)))) (pe_one (pe_and (pe_cmpR op_eq (pe_ix (ix_tup' (K := K) rfl) (pv 11) pe_int (fun _ _ => rfl)) (pe_ix (ix_tup' (K := K) rfl) (pv 11) pe_int (fun _ _ => rfl)) (nomark _)) (pe_one (pe_cmpR op_gt (pe_ix (ix_tup' (K := K) rfl) (pv 11) pe_int (fun _ _ => rfl)) pe_int (nomark _))))))) (pss_one (ps_if (PW.pt (pw_or (pt_not (pt_val (pv 12))) (pw_or1 (pt_cmpR op_notBl (pe_cl c_two_win ⟨rfl, rfl, rfl, rfl, rfl⟩ hr (by omega) rfl (pa_cons (pv 9) (pa_cons (pv 10) pa_nil))) pe_bl (nomark _))))) (pss_one (ps_ret pe_bl)) pss_nil))))) (pss_one (ps_if (pt_cmpR (op_neD' (K := K) rfl hu) (pe_callTy (call_tuple_of' (K := K) rfl) rfl G.b_tuple boot_tuple (pa_cons (pe_callB (cr_sortT' (10 ^ 14) (K := K) rfl) rfl G.b_sorted boot_sorted (pa_cons (pe_lc (own := [("pair", 13)]) rfl sc__law_are_golden_right.nd (pi_tup' (K := K) rfl (pv 8)) (blkOk_by (N := N__law_are_golden_right) (sc := defScope s__law_are_golden_right) (by decide +kernel)) (fun _ _ _ _ _ => (pg_name (i := 13) sc__law_are_golden_right.nd rfl (by first | exact Or.inl rfl | exact Or.inr rfl))) (fun _ _ _ _ _ => pts_nil) (fun _ _ _ _ _ => (pe_revT (K := K) rfl (pv 13)))) pa_nil)) pa_nil)) (pe_cl c_two_good ⟨rfl, rfl, rfl, rfl, rfl⟩ hr (by omega) rfl (pa_cons (pv 6) (pa_cons (pv 5) pa_nil))) (nomark _)) (pss_one (ps_ret pe_bl)) pss_nil))))))) (pss_one (ps_ret pe_bl))))))))))), fun qs c Q hS hb => ?_⟩
  obtain ⟨n, k, o, rfl, ⟨hc, ho, hk⟩, hQ⟩ := hS
  -- statement 1
  refine sw_seq (sw_set (ew_opC (ew_call (aw_cons (ew_var rfl (aw_cons (ew_int (aw_nil ⟨_, _, _, _, rfl, ⟨hc, ho, by omega⟩, ⟨by decide, by decide⟩, fun r1 o1 hr1 ho1 => ⟨_, rfl, (ew_opC (ew_int ⟨_, rfl, (ew_int ⟨_, rfl, ⟨by decide, by decide, by decide⟩, ⟨_, rfl, (by decide), ?_⟩⟩)⟩))⟩⟩))))))))
  generalize hnb : r1 % 10 ^ (8 : Int).toNat = nb
  have hn0 : 0 ≤ nb ∧ nb < 100000000 := by rw [← hnb]; exact ⟨Int.emod_nonneg _ (by decide), Int.emod_lt_of_pos _ (by decide)⟩
  have hA : nb ≤ Ai nb ∧ Ai nb ≤ 2 * nb := ⟨(Gold.A_spec hn0.1).1, (Gold.A_spec hn0.1).2.1⟩
  have hstep : Ai (nb + 1) = Ai nb + 1 ∨ Ai (nb + 1) = Ai nb + 2 := Gold.Astep hn0.1
  have hAB : Ai (Ai nb + nb) = 2 * Ai nb + nb := Gold.AB hn0.1
  -- statement 2
  refine sw_seq (sw_asg (ew_call (aw_cons (ew_var rfl (aw_nil ⟨_, rfl, ⟨hn0.1, by omega⟩, (gw_tup rfl (gws_cons (gw_name (gws_cons (gw_name (gws_nil ?_))))))⟩)))))
  -- statement 3
  refine sw_seq (sw_if (tw_or' (tw_test (ew_neI (ew_var rfl ⟨_, rfl, (ew_opI (ew_var rfl ⟨_, rfl, (ew_var rfl ⟨_, rfl, ⟨_, rfl, ⟨_, rfl, ⟨rfl, rfl⟩⟩⟩⟩)⟩))⟩))) (fun hbx4 => (tw_test (ew_neI (ew_ixT (ew_call (aw_cons (ew_var rfl (aw_nil ⟨_, rfl, ⟨by omega, by omega⟩, (ew_int ⟨_, _, _, rfl, rfl, (by walk_at "pl"), ⟨_, rfl, (ew_opI (ew_var rfl ⟨_, rfl, (ew_var rfl ⟨_, rfl, ⟨_, rfl, ⟨_, rfl, ⟨rfl, rfl⟩⟩⟩⟩)⟩))⟩⟩)⟩)))))))) ⟨fun hx3 => ?_, fun hx3 => ?_⟩))
  · exfalso
    simp only [hAB, Bool.or_eq_true, Bool.not_eq_true', decide_eq_false_iff_not, decide_eq_true_eq, not_true_eq_false, false_or] at hx3
    omega
  · try simp only [decide_eq_true_eq, decide_eq_false_iff_not, Bool.or_eq_true, Bool.and_eq_true, Bool.or_eq_false_iff, Bool.and_eq_false_iff, Bool.not_eq_true', Bool.not_eq_false', Bool.not_true, Bool.not_false, Int.not_lt, Int.not_le] at hx3
    refine sw_next ?_
    -- statement 5
    refine sw_seq (sw_if (tw_and' (tw_test (ew_opB (ew_var rfl ⟨_, rfl, (ew_int ⟨_, rfl, ⟨_, rfl, ⟨rfl, rfl⟩⟩⟩)⟩))) (fun hbx7 => (tw_test (ew_neI (ew_ixT (ew_call (aw_cons (ew_var rfl (aw_nil ⟨_, rfl, ⟨by omega, by omega⟩, (ew_int ⟨_, _, _, rfl, rfl, (by walk_at "pl"), ⟨_, rfl, (ew_opI (ew_var rfl ⟨_, rfl, (ew_int ⟨_, rfl, ⟨_, rfl, ⟨_, rfl, ⟨rfl, rfl⟩⟩⟩⟩)⟩))⟩⟩)⟩)))))))) ⟨fun hx6 => ?_, fun hx6 => ?_⟩))
    · exfalso
      simp only [Bool.and_eq_true, Bool.not_eq_true', decide_eq_false_iff_not, decide_eq_true_eq] at hx6
      have hAA : Ai (Ai nb) = Ai nb + nb - 1 := Gold.AA hx6.1
      omega
    · try simp only [decide_eq_true_eq, decide_eq_false_iff_not, Bool.or_eq_true, Bool.and_eq_true, Bool.or_eq_false_iff, Bool.and_eq_false_iff, Bool.not_eq_true', Bool.not_eq_false', Bool.not_true, Bool.not_false, Int.not_lt, Int.not_le] at hx6
      refine sw_next ?_
      -- statement 7
      refine sw_seq (sw_set (ew_call (aw_cons (ew_opI (ew_var rfl ⟨_, rfl, (ew_int ⟨_, rfl, (aw_nil ⟨_, rfl, ⟨by omega, by omega⟩, ?_⟩)⟩)⟩)))))
      -- statement 8
      refine sw_seq (sw_if (tw_or' (tw_test (ew_in (ew_opI (ew_ixT (ew_var rfl (ew_int ⟨_, _, _, rfl, rfl, (by walk_at "pl"), ⟨_, rfl, (ew_var rfl ⟨_, rfl, (ew_tup (aw_cons (ew_int (aw_cons (ew_int (aw_nil ⟨(by show 2 ≤ 100000; decide), ⟨_, [1, 2], rfl, (SeqOf.of (.t _) (by first | rfl | (rw [List.map_map]; rfl))), ⟨_, rfl, ⟨rfl, rfl⟩⟩⟩⟩))))))⟩)⟩⟩)))))) (fun hbx11 => (tw_test (ew_in (ew_opI (ew_ixT (ew_var rfl (ew_int ⟨_, _, _, rfl, rfl, (by walk_at "pl"), ⟨_, rfl, (ew_var rfl ⟨_, rfl, (ew_tup (aw_cons (ew_int (aw_cons (ew_int (aw_nil ⟨(by show 2 ≤ 100000; decide), ⟨_, [2, 3], rfl, (SeqOf.of (.t _) (by first | rfl | (rw [List.map_map]; rfl))), ⟨_, rfl, ⟨rfl, rfl⟩⟩⟩⟩))))))⟩)⟩⟩))))))) ⟨fun hx10 => ?_, fun hx10 => ?_⟩))
      · exfalso
        simp only [if_true, Bool.or_eq_true, Bool.not_eq_true', decide_eq_false_iff_not, decide_eq_true_eq, List.mem_cons, List.not_mem_nil, or_false] at hx10
        omega
      · try simp only [decide_eq_true_eq, decide_eq_false_iff_not, Bool.or_eq_true, Bool.and_eq_true, Bool.or_eq_false_iff, Bool.and_eq_false_iff, Bool.not_eq_true', Bool.not_eq_false', Bool.not_true, Bool.not_false, Int.not_lt, Int.not_le] at hx10
        refine sw_next ?_
        -- statement 10
        refine sw_seq (sw_for (iw_tup (ew_tup (aw_cons (ew_tup (aw_cons (ew_var rfl (aw_cons (ew_var rfl (aw_nil ⟨(by show 2 ≤ 100000; decide), (aw_cons (ew_tup (aw_cons (ew_var rfl (aw_cons (ew_var rfl (aw_nil ⟨(by show 2 ≤ 100000; decide), (aw_nil ⟨(by show 2 ≤ 100000; decide), ⟨_, rfl, ⟨(fun i ρ c' => c' = c.set n o1 ∧ ∃ y5 y6 : Option P, ρ = [some (.cell n), some (.int nb), some (.int (Ai nb)), some (.int (Ai nb + nb)), some (.tup [.int (Ai (nb + 1)), .int (Ai (nb + 1) + (nb + 1))]), y5, y6, none, none, none, none, none, none, none]), ⟨rfl, none, none, rfl⟩, fun i p ρ' c' hi hP => ?_, fun ρ' c' hP => ?_⟩⟩⟩)⟩)))))))⟩))))))))))
        · obtain ⟨rfl, y5, y6, rfl⟩ := hP
          obtain ⟨a, b, rfl, hab⟩ : ∃ a b, p = .tup [.int a, .int b] ∧ (a = Ai nb ∧ b = Ai nb + nb ∨ a = Ai nb + nb ∧ b = Ai nb) := by
            have hi2 : i < 2 := (List.getElem?_eq_some_iff.mp hi).1
            have e : i = 0 ∨ i = 1 := by omega
            rcases e with rfl | rfl
            · injection hi with hi; exact ⟨_, _, hi.symm, .inl ⟨rfl, rfl⟩⟩
            · injection hi with hi; exact ⟨_, _, hi.symm, .inr ⟨rfl, rfl⟩⟩
          have hpab : pairB a b = true := by
            rcases hab with ⟨rfl, rfl⟩ | ⟨rfl, rfl⟩
            · exact Gold.pr_of hn0.1
            · exact Gold.pr_of' hn0.1
          refine gw_tup rfl (gws_cons (gw_name (gws_cons (gw_name (gws_nil ?_)))))
          -- statement 11
          refine sw_if (tw_of (x := false) (tw_or (tw_test (ew_notB (ew_call (aw_cons (ew_var rfl (aw_cons (ew_var rfl (aw_nil ⟨_, _, rfl, ⟨by omega, by omega, by omega, by omega⟩, ⟨_, rfl, (ew_bl ⟨_, rfl, ⟨_, rfl, ⟨fun hbx13 => ⟨(by first | (exfalso; simp_all; done) | (have hzn := goodz_nil hn0.1 hab hgz; rw [hzn]; rfl)), rfl⟩, fun hbx13 => (tw_test (ew_neD (ew_call (aw_cons (ew_var rfl (aw_cons (ew_var rfl (aw_nil ⟨_, _, rfl, ⟨by omega, by omega, by omega, by omega⟩, fun gz hgz => (ew_tup (aw_nil ⟨(by show 0 ≤ 100000; decide), ⟨⟨data_pairs _, rfl, shaped_pairs _, rfl⟩, ⟨_, rfl, ⟨(by first | (exfalso; simp_all; done) | (have hzn := goodz_nil hn0.1 hab hgz; rw [hzn]; rfl)), rfl⟩⟩⟩⟩))⟩))))))))⟩⟩⟩)⟩⟩))))))))) ⟨fun hx12 => ?_, fun hx12 => ?_⟩)
          · cases hx12
          · try simp only [decide_eq_true_eq, decide_eq_false_iff_not, Bool.or_eq_true, Bool.and_eq_true, Bool.or_eq_false_iff, Bool.and_eq_false_iff, Bool.not_eq_true', Bool.not_eq_false', Bool.not_true, Bool.not_false, Int.not_lt, Int.not_le] at hx12
            refine sw_next ?_
            exact ⟨rfl, _, _, rfl⟩
        · obtain ⟨rfl, y5, y6, rfl⟩ := hP
          -- statement 13
          refine sw_seq (sw_set (ew_opI (ew_int ⟨_, rfl, (ew_call (aw_cons (ew_var rfl (aw_cons (ew_int (aw_nil ⟨_, _, _, _, rfl, ⟨set_get hc, ho1, by omega⟩, ⟨by decide, by decide⟩, fun r2 o2 hr2 ho2 => ⟨_, rfl, ?_⟩⟩))))))⟩)))
          -- statement 14
          refine sw_seq (sw_for (iw_tup (ew_tup (aw_cons (ew_tup (aw_cons (ew_opI (ew_var rfl ⟨_, rfl, (ew_var rfl ⟨_, rfl, (aw_cons (ew_var rfl (aw_nil ⟨(by show 2 ≤ 100000; decide), (aw_cons (ew_tup (aw_cons (ew_var rfl (aw_cons (ew_opI (ew_var rfl ⟨_, rfl, (ew_var rfl ⟨_, rfl, (aw_nil ⟨(by show 2 ≤ 100000; decide), (aw_cons (ew_tup (aw_cons (ew_opI (ew_var rfl ⟨_, rfl, (ew_var rfl ⟨_, rfl, (aw_cons (ew_opI (ew_var rfl ⟨_, rfl, (ew_var rfl ⟨_, rfl, (aw_nil ⟨(by show 2 ≤ 100000; decide), (aw_nil ⟨(by show 3 ≤ 100000; decide), ⟨_, rfl, ⟨(fun i ρ c' => c' = c.set n o2 ∧ ∃ y5 y6 y8 y9 y10 y11 y12 y13 : Option P, ρ = [some (.cell n), some (.int nb), some (.int (Ai nb)), some (.int (Ai nb + nb)), some (.tup [.int (Ai (nb + 1)), .int (Ai (nb + 1) + (nb + 1))]), y5, y6, some (.int (1 + r2)), y8, y9, y10, y11, y12, y13]), ⟨by rw [List.set_set], _, _, _, _, _, _, _, _, rfl⟩, fun i p ρ' c' hi hP => ?_, fun ρ' c' hP => ?_⟩⟩⟩)⟩)⟩)⟩)))⟩)⟩)))))⟩)⟩)⟩)))))))⟩)))⟩)⟩))))))))
          · obtain ⟨rfl, y5, y6, y8, y9, y10, y11, y12, y13, rfl⟩ := hP
            obtain ⟨a, b, rfl, ha, hb2⟩ : ∃ a b, p = .tup [.int a, .int b] ∧ (0 ≤ a ∧ a ≤ 10 ^ 10) ∧ (0 ≤ b ∧ b ≤ 10 ^ 10 ∧ b - a ≤ 10 ^ 9 ∧ a - b ≤ 10 ^ 9) := by
              have hi2 : i < 3 := (List.getElem?_eq_some_iff.mp hi).1
              have e : i = 0 ∨ i = 1 ∨ i = 2 := by omega
              rcases e with rfl | rfl | rfl
              · injection hi with hi; exact ⟨_, _, hi.symm, by omega, by omega⟩
              · injection hi with hi; exact ⟨_, _, hi.symm, by omega, by omega⟩
              · injection hi with hi; exact ⟨_, _, hi.symm, by omega, by omega⟩
            refine gw_tup rfl (gws_cons (gw_name (gws_cons (gw_name (gws_nil ?_)))))
            -- statement 15
            refine sw_seq (sw_if (tw_test (ew_eqD (ew_tup (aw_cons (ew_min2 (aw_cons (ew_var rfl (aw_cons (ew_var rfl (aw_nil ⟨_, _, rfl, (aw_cons (ew_max2 (aw_cons (ew_var rfl (aw_cons (ew_var rfl (aw_nil ⟨_, _, rfl, (aw_nil ⟨(by show 2 ≤ 100000; decide), (ew_call (aw_cons (ew_abs (ew_opI (ew_var rfl ⟨_, rfl, (ew_var rfl ⟨_, rfl, ⟨_, rfl, (aw_nil ⟨_, rfl, ⟨by split <;> omega, by split <;> omega⟩, ⟨⟨data_tup [_, _], data_tup [_, _], shaped_tup [_, _], shaped_tup [_, _]⟩, ⟨_, rfl, ⟨fun hx17 => ?_, fun hx17 => ?_⟩⟩⟩⟩)⟩⟩)⟩)))))⟩)⟩)))))))⟩)))))))))))
            · try simp only [decide_eq_true_eq, decide_eq_false_iff_not, Bool.or_eq_true, Bool.and_eq_true, Bool.or_eq_false_iff, Bool.and_eq_false_iff, Bool.not_eq_true', Bool.not_eq_false', Bool.not_true, Bool.not_false, Int.not_lt, Int.not_le] at hx17
              -- statement 16
              refine sw_cont ?_
              exact ⟨rfl, _, _, _, _, _, _, _, _, rfl⟩
            · have hpf : pairB a b = false := by
                cases e : pairB a b with
                | false => rfl
                | true =>
                  exfalso
                  have h2 := (eqv_two (Gold.lo a b) (Gold.hi a b) (Ai (if b - a < 0 then -(b - a) else b - a)) (Ai (if b - a < 0 then -(b - a) else b - a) + (if b - a < 0 then -(b - a) else b - a))).symm.trans hx17
                  have e1 : Ai (Gold.hi a b - Gold.lo a b) = Gold.lo a b := of_decide_eq_true e
                  have e2 : Gold.hi a b - Gold.lo a b = if b - a < 0 then -(b - a) else b - a := by unfold Gold.hi Gold.lo; split <;> split <;> split <;> omega
                  rw [← e2, e1] at h2
                  simp only [Bool.and_eq_false_iff, decide_eq_false_iff_not, not_true_eq_false, false_or] at h2
                  omega
              have hpf2 : pairB b a = false := by rw [← hpf]; exact (Gold.pr_comm a b).symm
              refine sw_next ?_
              -- statement 17
              refine sw_seq (sw_set (ew_call (aw_cons (ew_var rfl (aw_cons (ew_var rfl (aw_nil ⟨_, _, rfl, ⟨by omega, by omega, by omega, by omega⟩, fun gz hgz => ?_⟩)))))))
              have hgood := goodz_some hpf hgz
              have hlen3 := gd_len hgood.2.1 hgood.1
              -- statement 18
              refine sw_seq (sw_if (tw_or' (tw_test (ew_notB (ew_call (aw_cons (ew_var rfl (aw_cons (ew_var rfl (aw_nil ⟨_, _, rfl, ⟨by omega, by omega, by omega, by omega⟩, ⟨_, rfl, (ew_bl ⟨_, rfl, ⟨_, rfl, ⟨rfl, rfl⟩⟩⟩)⟩⟩)))))))) (fun hbx21 => (tw_or' (tw_test (ew_notB (ew_call (aw_cons (ew_var rfl (aw_cons (ew_var rfl (aw_nil ⟨_, _, rfl, ⟨by omega, by omega, by omega, by omega⟩, ⟨_, rfl, (ew_bl ⟨_, rfl, ⟨_, rfl, ⟨rfl, rfl⟩⟩⟩)⟩⟩)))))))) (fun hbx23 => (tw_test (ew_eqD (ew_var rfl (ew_tup (aw_nil ⟨(by show 0 ≤ 100000; decide), ⟨⟨data_pairs _, rfl, shaped_pairs _, rfl⟩, ⟨_, rfl, ⟨rfl, rfl⟩⟩⟩⟩)))))) ⟨rfl, rfl⟩)) ⟨fun hx20 => ?_, fun hx20 => ?_⟩))
              · exfalso
                obtain ⟨z, hz⟩ := Gold.gd_ne ha.1 hb2.1 hpf
                have hz := (hgood.1 z).mpr hz
                have e3 := eqv_pairs gz []
                rw [List.map_nil] at e3
                simp only [hpf, hpf2, e3, Bool.not_false, decide_true, Bool.not_true, Bool.false_or, decide_eq_true_eq] at hx20
                rw [hx20] at hz
                cases hz
              · try simp only [decide_eq_true_eq, decide_eq_false_iff_not, Bool.or_eq_true, Bool.and_eq_true, Bool.or_eq_false_iff, Bool.and_eq_false_iff, Bool.not_eq_true', Bool.not_eq_false', Bool.not_true, Bool.not_false, Int.not_lt, Int.not_le] at hx20
                refine sw_next ?_
                -- statement 20
                refine sw_seq (sw_for (iw_tup (ew_var rfl ⟨_, rfl, ⟨(fun i ρ c' => c' = c.set n o2 ∧ ∃ y9 y10 y11 y12 y13 : Option P, ρ = [some (.cell n), some (.int nb), some (.int (Ai nb)), some (.int (Ai nb + nb)), some (.tup [.int (Ai (nb + 1)), .int (Ai (nb + 1) + (nb + 1))]), some (.int a), some (.int b), some (.int (1 + r2)), some (.tup (gz.map pairI)), y9, y10, y11, y12, y13]), ⟨rfl, _, _, _, _, _, rfl⟩, fun i p ρ' c' hi hP => ?_, fun ρ' c' hP => ?_⟩⟩)))
                · obtain ⟨rfl, y9, y10, y11, y12, y13, rfl⟩ := hP
                  rw [List.getElem?_map] at hi
                  obtain ⟨z, hz, rfl⟩ : ∃ z, z ∈ gz ∧ p = pairI z := by
                    cases e : gz[i]? with
                    | none => rw [e] at hi; cases hi
                    | some z => rw [e] at hi; exact ⟨z, List.mem_of_getElem? e, (Option.some.inj hi).symm⟩
                  have hzg := (hgood.1 z).mp hz
                  have hmv := Gold.gd_move ha.1 hb2.1 hpf hzg
                  have hzb := gd_bd (by omega) (by omega) hzg
                  have hzl := (Gold.mem_gd.mp hzg).2
                  refine gw_tup rfl (gws_cons (gw_name (gws_cons (gw_name (gws_nil ?_)))))
                  -- statement 21
                  refine sw_seq (sw_set (ew_tup (aw_cons (ew_opI (ew_var rfl ⟨_, rfl, (ew_var rfl ⟨_, rfl, (aw_cons (ew_opI (ew_var rfl ⟨_, rfl, (ew_var rfl ⟨_, rfl, (aw_nil ⟨(by show 2 ≤ 100000; decide), ?_⟩)⟩)⟩)))⟩)⟩)))))
                  -- statement 22
                  refine sw_seq (sw_set (ew_of (x := P.bl true) (ew_orV (ew_andV (ew_eqI (ew_minT (ew_var rfl ⟨[a - z.1, b - z.2], rfl, (by show 0 < 2; decide), fun mx31 hmx32 hmx33 => ⟨_, rfl, (ew_int ⟨_, rfl, ⟨_, rfl, fun hbx27 => (ew_opB (ew_maxT (ew_var rfl ⟨[a - z.1, b - z.2], rfl, (by show 0 < 2; decide), fun mx28 hmx29 hmx30 => ⟨_, rfl, (ew_int ⟨_, rfl, ⟨_, rfl, fun hbx25 => ⟨(by first | rfl | (refine congrArg P.bl ?_; simp only [List.mem_cons, List.not_mem_nil, or_false, forall_eq_or_imp, forall_eq, Bool.and_eq_true, decide_eq_true_eq, decide_eq_false_iff_not, gt_iff_lt] at *; omega) | (exfalso; simp only [List.mem_cons, List.not_mem_nil, or_false, forall_eq_or_imp, forall_eq, Bool.and_eq_true, decide_eq_true_eq, decide_eq_false_iff_not, gt_iff_lt] at *; omega)), rfl⟩, fun hbx25 => (ew_and' (ew_eqI (ew_ixT (ew_var rfl (ew_int ⟨_, _, _, rfl, rfl, (by walk_at "pl"), ⟨_, rfl, (ew_ixT (ew_var rfl (ew_int ⟨_, _, _, rfl, rfl, (by walk_at "pl"), ⟨_, rfl, ⟨rfl, rfl⟩⟩⟩)))⟩⟩)))) (fun hbx26 => (ew_opB (ew_ixT (ew_var rfl (ew_int ⟨_, _, _, rfl, rfl, (by walk_at "pl"), ⟨_, rfl, (ew_int ⟨_, rfl, ⟨rfl, rfl⟩⟩)⟩⟩))))) ⟨(by first | rfl | (refine congrArg P.bl ?_; simp only [List.mem_cons, List.not_mem_nil, or_false, forall_eq_or_imp, forall_eq, Bool.and_eq_true, decide_eq_true_eq, decide_eq_false_iff_not, gt_iff_lt] at *; omega) | (exfalso; simp only [List.mem_cons, List.not_mem_nil, or_false, forall_eq_or_imp, forall_eq, Bool.and_eq_true, decide_eq_true_eq, decide_eq_false_iff_not, gt_iff_lt] at *; omega)), rfl⟩)⟩⟩)⟩⟩))), fun hbx27 => ⟨_, rfl, fun hbx25 => ⟨(by first | rfl | (refine congrArg P.bl ?_; simp only [List.mem_cons, List.not_mem_nil, or_false, forall_eq_or_imp, forall_eq, Bool.and_eq_true, decide_eq_true_eq, decide_eq_false_iff_not, gt_iff_lt] at *; omega) | (exfalso; simp only [List.mem_cons, List.not_mem_nil, or_false, forall_eq_or_imp, forall_eq, Bool.and_eq_true, decide_eq_true_eq, decide_eq_false_iff_not, gt_iff_lt] at *; omega)), rfl⟩, fun hbx25 => (ew_and' (ew_eqI (ew_ixT (ew_var rfl (ew_int ⟨_, _, _, rfl, rfl, (by walk_at "pl"), ⟨_, rfl, (ew_ixT (ew_var rfl (ew_int ⟨_, _, _, rfl, rfl, (by walk_at "pl"), ⟨_, rfl, ⟨rfl, rfl⟩⟩⟩)))⟩⟩)))) (fun hbx26 => (ew_opB (ew_ixT (ew_var rfl (ew_int ⟨_, _, _, rfl, rfl, (by walk_at "pl"), ⟨_, rfl, (ew_int ⟨_, rfl, ⟨rfl, rfl⟩⟩)⟩⟩))))) ⟨(by first | rfl | (refine congrArg P.bl ?_; simp only [List.mem_cons, List.not_mem_nil, or_false, forall_eq_or_imp, forall_eq, Bool.and_eq_true, decide_eq_true_eq, decide_eq_false_iff_not, gt_iff_lt] at *; omega) | (exfalso; simp only [List.mem_cons, List.not_mem_nil, or_false, forall_eq_or_imp, forall_eq, Bool.and_eq_true, decide_eq_true_eq, decide_eq_false_iff_not, gt_iff_lt] at *; omega)), rfl⟩)⟩⟩⟩)⟩⟩))))) ?_))
                  -- statement 23
                  refine sw_if (tw_or' (tw_not (tw_B (ew_var rfl ⟨_, rfl, ⟨rfl, rfl⟩⟩))) (fun hbx35 => (tw_test (ew_notB (ew_call (aw_cons (ew_var rfl (aw_cons (ew_var rfl (aw_nil ⟨_, _, rfl, ⟨by omega, by omega, by omega, by omega⟩, ⟨_, rfl, (ew_bl ⟨_, rfl, ⟨_, rfl, ⟨rfl, rfl⟩⟩⟩)⟩⟩))))))))) ⟨fun hx34 => ?_, fun hx34 => ?_⟩)
                  · exfalso
                    have hpz : pairB z.1 z.2 = true := hmv.1
                    simp [hpz] at hx34
                  · try simp only [decide_eq_true_eq, decide_eq_false_iff_not, Bool.or_eq_true, Bool.and_eq_true, Bool.or_eq_false_iff, Bool.and_eq_false_iff, Bool.not_eq_true', Bool.not_eq_false', Bool.not_true, Bool.not_false, Int.not_lt, Int.not_le] at hx34
                    refine sw_next ?_
                    exact ⟨rfl, _, _, _, _, _, rfl⟩
                · obtain ⟨rfl, y9, y10, y11, y12, y13, rfl⟩ := hP
                  -- statement 25
                  refine sw_if (tw_test (ew_neD (ew_tupleOf (ew_sortP (10 ^ 14) (ew_lcM pairI gz (fun z => pairI (flip z)) (gc_name (by decide)) (iw_tup (ew_var rfl ⟨_, rfl, ⟨rfl, rfl⟩⟩)) (by omega) (fun x hx => gw_name ⟨rfl, (tw_yes ⟨rfl, rfl⟩), fun hf => (ew_revT (ew_var rfl ⟨_, rfl, ⟨rfl, rfl⟩⟩))⟩) ⟨(gz.map flip), (LstOf.of (.lst _) (by rw [List.map_map]; rfl)), ⟨by rw [List.length_map]; omega, fun g hg => by
                    obtain ⟨z, hz, rfl⟩ := List.mem_map.mp hg
                    have h7 := gd_bd (by omega) (by omega) ((hgood.1 z).mp hz)
                    exact ⟨h7.2, h7.1⟩⟩, fun vs hvp hvs => ⟨_, (.l (.lst _)), (ew_call (aw_cons (ew_var rfl (aw_cons (ew_var rfl (aw_nil ⟨_, _, rfl, ⟨by omega, by omega, by omega, by omega⟩, fun gw hgw => ⟨⟨data_pairs _, data_pairs _, shaped_pairs _, shaped_pairs _⟩, ⟨_, rfl, ⟨fun hx37 => ?_, fun hx37 => ?_⟩⟩⟩⟩))))))⟩⟩)))))
                  · exfalso
                    have e4 := goodz_flip (by omega) (by omega) hpf hgz hgw hvp hvs
                    have e5 := eqv_pairs vs gw
                    rw [e5, decide_eq_true e4] at hx37
                    cases hx37
                  · try simp only [decide_eq_true_eq, decide_eq_false_iff_not, Bool.or_eq_true, Bool.and_eq_true, Bool.or_eq_false_iff, Bool.and_eq_false_iff, Bool.not_eq_true', Bool.not_eq_false', Bool.not_true, Bool.not_false, Int.not_lt, Int.not_le] at hx37
                    refine sw_next ?_
                    exact ⟨rfl, _, _, _, _, _, _, _, _, rfl⟩
          · obtain ⟨rfl, y5, y6, y8, y9, y10, y11, y12, y13, rfl⟩ := hP
            -- statement 27
            refine sw_ret (ew_bl ?_)
            exact .inl (hQ _ (ho2.mono (by omega)))
end K22

set_option Elab.async false
set_option linter.all false
set_option maxRecDepth 100000
local macro_rules | `(tactic| walk_at "pl") => `(tactic| first | assumption | rfl | omega | exact PL.get_app | exact PL.get_appS | exact ⟨by omega, by omega⟩ | exact Or.inl ⟨by omega, by omega⟩ | exact Or.inr ⟨by omega, by omega⟩ | (show (0 : Int) < _; omega) | decide | (simp only [List.length_cons, List.length_nil]; omega) | (refine ⟨?_, ?_⟩ <;> first | assumption | omega))
local macro_rules | `(tactic| walk_at "pl end") => `(tactic| first | exact .inl hQ | exact rt_is hQ (by simp))
local macro_rules | `(tactic| walk_at "pl dead") => `(tactic| first | omega | (intros; simp_all; done) | (intros; simp_all; omega))
namespace K22
open PySem PySem.Spec PyProof.Rows L2 Evl PL
variable {K : PySem.W.Frag} {P₀ : Program} {w : World} {mg : Str → Option Value} {base : Heap}
theorem won_k {k : Int} (a b : Int) (h : 0 < k) : wonI (k * a) (k * b) = wonI a b := by unfold wonI; exact Gold.won_mul a b h
theorem good_k {k : Int} (a b : Int) (h : 0 < k) : goodI (k * a) (k * b) = goodI a b := by unfold goodI; exact Gold.goodE_mul a b h
theorem won_c (a b : Int) : wonI a b = wonI b a := by unfold wonI; exact Gold.won_comm a b
theorem good_c (a b : Int) : goodI a b = goodI b a := by unfold goodI; exact Gold.goodE_comm a b
theorem good_any {a b : Int} (ha : 0 < a) (hb : 0 < b) : (!decide (goodI a b = [])) = wonI a b := by
  have e := Gold.euc_any ha hb
  unfold goodI wonI
  cases h : Gold.won a b with
  | true =>
    have : Gold.goodE a b ≠ [] := by rw [e]; exact h
    rw [decide_eq_false this]; rfl
  | false =>
    have : ¬ Gold.goodE a b ≠ [] := by rw [e, h]; decide
    rw [decide_eq_true (Classical.not_not.mp this)]; rfl
theorem good_l {a b t : Int} (ha : 0 < a) (hb : 0 < b) (h : t ∈ goodI a b) : 0 ≤ Gold.hi a b - t * Gold.lo a b ∧ wonI (Gold.hi a b - t * Gold.lo a b) (Gold.lo a b) = false := by
  unfold goodI at h
  unfold wonI
  exact Gold.good_left ha hb h
theorem good_t {a b t : Int} (h : t ∈ goodI a b) : 0 < t := by
  unfold goodI at h
  exact (Gold.mem_goodE.mp h).2.1
theorem lost_1 {a b : Int} (ha : 0 < a) (hb : 0 < b) (h : wonI a b = false) : (1 : Int) ∈ goodI (Gold.hi a b + Gold.lo a b) (Gold.lo a b) := by
  unfold wonI at h
  unfold goodI
  exact Gold.lost_one ha hb h
theorem by_bd {k a : Int} (hk : 1 ≤ k ∧ k ≤ 100000) (ha : 1 ≤ a ∧ a ≤ 100000) : 1 ≤ k * a ∧ k * a ≤ 10000000000 := by
  have h1 := Int.mul_le_mul (a := 1) (b := 1) hk.1 ha.1 (by decide) (by omega)
  have h2 := Int.mul_le_mul hk.2 ha.2 (by omega) (by decide)
  omega

abbrev N__law_are_euclids_right : List Str := ["pot", "one", "other", "by", "is_won", "some", "high", "low", "times", "left"]
theorem sc__law_are_euclids_right : FnScope N__law_are_euclids_right ["pot"] (defScope s__law_are_euclids_right) := ⟨rfl, rfl, rfl, by decide +kernel, rfl, by decide +kernel, by decide +kernel⟩
set_option maxHeartbeats 4000000 in
theorem ok__law_are_euclids_right (G : GF K mg) (c__law_take : Cl P₀ w K mg base 1 "_law_take" S_law_take) (c__law_great : Cl P₀ w K mg base 2 "_law_great" S_law_great) (c_euclid_good : Cl P₀ w K mg base 4 "euclid_good" S_euclid_good) (c_euclid_wins : Cl P₀ w K mg base 4 "euclid_wins" S_euclid_wins) : Cl P₀ w K mg base 5 "_law_are_euclids_right" S_law_are_euclids_right := by
  refine pfn G.d__law_are_euclids_right sc__law_are_euclids_right (fun _ _ _ _ _ _ us hl => match us, hl with | [_], _ => rfl) (fun qs c Q h => ?_) (fun f cdv A outer s H E hr => ?_)
  · obtain ⟨n, k, o, rfl, ⟨hc, ho, hk⟩, hQ⟩ := h; rfl
  have hu := hr.units
  refine ⟨_, (pss_cons (ps_par3 (i := 1) (j := 2) (l := 3) rfl sc__law_are_euclids_right.nd rfl rfl rfl (by decide) (by decide) (by decide) rfl rfl rfl (pa_cons (pe_cl c__law_great ⟨rfl, rfl, rfl, rfl, rfl⟩ hr (by omega) rfl (pa_cons (pv 0) (pa_cons pe_int pa_nil))) (pa_cons (pe_cl c__law_great ⟨rfl, rfl, rfl, rfl, rfl⟩ hr (by omega) rfl (pa_cons (pv 0) (pa_cons pe_int pa_nil))) (pa_cons (pe_op op_add pe_int (pe_cl c__law_take ⟨rfl, rfl, rfl, rfl, rfl⟩ hr (by omega) rfl (pa_cons (pv 0) (pa_cons pe_int pa_nil)))) pa_nil))) rfl) (pss_cut (ps_if (pt_cmpR op_eq (pe_cl c__law_take ⟨rfl, rfl, rfl, rfl, rfl⟩ hr (by omega) rfl (pa_cons (pv 0) (pa_cons pe_int pa_nil))) pe_int (nomark _)) (pss_one (ps_par (i := 1) (j := 2) rfl sc__law_are_euclids_right.nd rfl rfl (by decide) rfl rfl (pa_cons (pe_callTy call_int1 rfl G.b_int boot_int (pa_cons (pe_op op_add (pe_cl c__law_take ⟨rfl, rfl, rfl, rfl, rfl⟩ hr (by omega) rfl (pa_cons (pv 0) (pa_cons pe_int pa_nil))) pe_int) pa_nil)) (pa_cons (pe_callTy call_int1 rfl G.b_int boot_int (pa_cons (pe_op op_add (pe_cl c__law_take ⟨rfl, rfl, rfl, rfl, rfl⟩ hr (by omega) rfl (pa_cons (pv 0) (pa_cons pe_int pa_nil))) pe_int) pa_nil)) pa_nil)) rfl)) pss_nil) (pss_cons (ps_par (i := 4) (j := 5) rfl sc__law_are_euclids_right.nd rfl rfl (by decide) rfl rfl (pa_cons (pe_cl c_euclid_wins ⟨rfl, rfl, rfl, rfl, rfl⟩ hr (by omega) rfl (pa_cons (pv 1) (pa_cons (pv 2) pa_nil))) (pa_cons (pe_cl c_euclid_good ⟨rfl, rfl, rfl, rfl, rfl⟩ hr (by omega) rfl (pa_cons (pv 1) (pa_cons (pv 2) pa_nil))) pa_nil)) rfl) (pss_cons (ps_if (PW.pt (pw_or (pt_cmpR op_ne (pe_cl c_euclid_wins ⟨rfl, rfl, rfl, rfl, rfl⟩ hr (by omega) rfl (pa_cons (pe_op op_mul (pv 3) (pv 1)) (pa_cons (pe_op op_mul (pv 3) (pv 2)) pa_nil))) (pv 4) (nomark _)) (pw_or1 (pt_cmpR (op_neD' (K := K) rfl hu) (pe_cl c_euclid_good ⟨rfl, rfl, rfl, rfl, rfl⟩ hr (by omega) rfl (pa_cons (pe_op op_mul (pv 3) (pv 1)) (pa_cons (pe_op op_mul (pv 3) (pv 2)) pa_nil))) (pv 5) (nomark _))))) (pss_one (ps_ret pe_bl)) pss_nil) (pss_cons (ps_if (PW.pt (pw_or (pt_cmpR op_ne (pe_cl c_euclid_wins ⟨rfl, rfl, rfl, rfl, rfl⟩ hr (by omega) rfl (pa_cons (pv 2) (pa_cons (pv 1) pa_nil))) (pv 4) (nomark _)) (pw_or (pt_cmpR (op_neD' (K := K) rfl hu) (pe_cl c_euclid_good ⟨rfl, rfl, rfl, rfl, rfl⟩ hr (by omega) rfl (pa_cons (pv 2) (pa_cons (pv 1) pa_nil))) (pv 5) (nomark _)) (pw_or1 (pt_cmpR op_ne (pe_cmpR (op_neD' (K := K) rfl hu) (pv 5) (pe_tup pa_nil) (nomark _)) (pv 4) (nomark _)))))) (pss_one (ps_ret pe_bl)) pss_nil) (pss_cons (ps_par (i := 6) (j := 7) rfl sc__law_are_euclids_right.nd rfl rfl (by decide) rfl rfl (pa_cons (pe_callB (call_max2 rfl) rfl G.b_max boot_max (pa_cons (pv 1) (pa_cons (pv 2) pa_nil))) (pa_cons (pe_callB (call_min2 rfl) rfl G.b_min boot_min (pa_cons (pv 1) (pa_cons (pv 2) pa_nil))) pa_nil)) rfl) (pss_cons (ps_for PassesOwn.never rfl (pi_tup' (K := K) rfl (pv 5)) (pg_name (i := 8) sc__law_are_euclids_right.nd rfl (Or.inl rfl)) (pss_cons (ps_set (i := 9) sc__law_are_euclids_right.nd rfl (Or.inl rfl) (pe_op op_sub (pv 6) (pe_op op_mul (pv 8) (pv 7)))) (pss_one (ps_if (PW.pt (pw_or (pt_cmpR op_lt (pv 9) pe_int (nomark _)) (pw_or1 (PW.pt (pw_and (pt_cmpR op_gt (pv 9) pe_int (nomark _)) (pw_and1 (pt_cmpR op_notBl (pe_cl c_euclid_wins ⟨rfl, rfl, rfl, rfl, rfl⟩ hr (by omega) rfl (pa_cons (pv 9) (pa_cons (pv 7) pa_nil))) pe_bl (nomark _)))))))) (pss_one (ps_ret pe_bl)) pss_nil)))) (pss_one (ps_ret (pe_or (pv 4) (pe_one (pe_cmpR (op_in_seq' (K := K) rfl) pe_int (pe_cl c_euclid_good ⟨rfl, rfl, rfl, rfl, rfl⟩ hr (by omega) rfl (pa_cons (pe_op op_add (pv 6) (pv 7)) (pa_cons (pv 7) pa_nil))) rfl)))))))))))), fun qs c Q hS hb => ?_⟩
  obtain ⟨n, k, o, rfl, ⟨hc, ho, hk⟩, hQ⟩ := hS
  -- statement 1
  refine sw_seq (sw_par3 (aw_cons (ew_call (aw_cons (ew_var rfl (aw_cons (ew_int (aw_nil ⟨_, _, _, _, rfl, ⟨hc, ho, by omega⟩, ⟨by decide, by decide⟩, fun r1 o1 hr1 ho1 => (aw_cons (ew_call (aw_cons (ew_var rfl (aw_cons (ew_int (aw_nil ⟨_, _, _, _, rfl, ⟨set_get hc, ho1, by omega⟩, ⟨by decide, by decide⟩, fun r2 o2 hr2 ho2 => (aw_cons (ew_opI (ew_int ⟨_, rfl, (ew_call (aw_cons (ew_var rfl (aw_cons (ew_int (aw_nil ⟨_, _, _, _, rfl, ⟨set_get (set_get hc), ho2, by omega⟩, ⟨by decide, by decide⟩, fun r3 o3 hr3 ho3 => ⟨_, rfl, (aw_nil ⟨_, _, _, rfl, ?_⟩)⟩⟩))))))⟩)))⟩)))))))⟩))))))))
  -- statement 2
  refine sw_cut (fun ρ' c' => ∃ (a b : Int) (o6 : Ob), c' = c.set n o6 ∧ ρ' = [some (.cell n), some (.int a), some (.int b), some (.int (1 + r3)), none, none, none, none, none, none] ∧ IsPot (k + 40) o6 ∧ (1 ≤ a ∧ a ≤ 100000) ∧ (1 ≤ b ∧ b ≤ 100000)) (sw_if (tw_test (ew_eqI (ew_call (aw_cons (ew_var rfl (aw_cons (ew_int (aw_nil ⟨_, _, _, _, rfl, ⟨set_get (set_get (set_get hc)), ho3, by omega⟩, ⟨by decide, by decide⟩, fun r4 o4 hr4 ho4 => ⟨_, rfl, (ew_int ⟨_, rfl, ⟨_, rfl, ⟨fun hx4 => ?_, fun hx4 => ?_⟩⟩⟩)⟩⟩))))))))) ?_
  · skip
    -- statement 3
    refine sw_par (aw_cons (ew_int1 (ew_opI (ew_call (aw_cons (ew_var rfl (aw_cons (ew_int (aw_nil ⟨_, _, _, _, rfl, ⟨set_get (set_get (set_get (set_get hc))), ho4, by omega⟩, ⟨by decide, by decide⟩, fun r5 o5 hr5 ho5 => ⟨_, rfl, (ew_int ⟨_, rfl, (.inl ⟨_, rfl, (aw_cons (ew_int1 (ew_opI (ew_call (aw_cons (ew_var rfl (aw_cons (ew_int (aw_nil ⟨_, _, _, _, rfl, ⟨set_get (set_get (set_get (set_get (set_get hc)))), ho5, by omega⟩, ⟨by decide, by decide⟩, fun r6 o6 hr6 ho6 => ⟨_, rfl, (ew_int ⟨_, rfl, (.inl ⟨_, rfl, (aw_nil ⟨_, _, rfl, ?_⟩)⟩)⟩)⟩⟩)))))))))⟩)⟩)⟩⟩)))))))))
    exact ⟨_, _, o6, by simp only [List.set_set], rfl, ho6.mono (by omega), by omega, by omega⟩
  · skip
    refine sw_next ?_
    have hten : (10 : Int) ^ (5 : Int).toNat = 100000 := by decide
    rw [hten] at hr1 hr2
    exact ⟨_, _, o4, by simp only [List.set_set], rfl, ho4.mono (by omega), by omega, by omega⟩
  intro ρ' c' hM
  obtain ⟨a, b, o7, rfl, rfl, ho7, ha, hb2⟩ := hM
  have hka := by_bd (k := 1 + r3) (by omega) ha
  have hkb := by_bd (k := 1 + r3) (by omega) hb2
  -- statement 4
  refine sw_seq (sw_par (aw_cons (ew_call (aw_cons (ew_var rfl (aw_cons (ew_var rfl (aw_nil ⟨_, _, rfl, ⟨by omega, by omega, by omega, by omega⟩, (aw_cons (ew_call (aw_cons (ew_var rfl (aw_cons (ew_var rfl (aw_nil ⟨_, _, rfl, ⟨by omega, by omega, by omega, by omega⟩, (aw_nil ⟨_, _, rfl, ?_⟩)⟩)))))))⟩))))))))
  -- statement 5
  refine sw_seq (sw_if (tw_or' (tw_test (ew_neB (ew_call (aw_cons (ew_opC (ew_var rfl ⟨_, rfl, (ew_var rfl ⟨_, rfl, (Or.inl ⟨by omega, by omega⟩), (aw_cons (ew_opC (ew_var rfl ⟨_, rfl, (ew_var rfl ⟨_, rfl, (Or.inl ⟨by omega, by omega⟩), (aw_nil ⟨_, _, rfl, ⟨by omega, by omega, by omega, by omega⟩, ⟨_, rfl, (ew_var rfl ⟨_, rfl, ⟨_, rfl, ⟨rfl, rfl⟩⟩⟩)⟩⟩)⟩)⟩)))⟩)⟩)))))) (fun hbx11 => (tw_test (ew_neD (ew_call (aw_cons (ew_opC (ew_var rfl ⟨_, rfl, (ew_var rfl ⟨_, rfl, (Or.inl ⟨by omega, by omega⟩), (aw_cons (ew_opC (ew_var rfl ⟨_, rfl, (ew_var rfl ⟨_, rfl, (Or.inl ⟨by omega, by omega⟩), (aw_nil ⟨_, _, rfl, ⟨by omega, by omega, by omega, by omega⟩, (ew_var rfl ⟨⟨data_tup _, data_tup _, shaped_tup _, shaped_tup _⟩, ⟨_, rfl, ⟨rfl, rfl⟩⟩⟩)⟩)⟩)⟩)))⟩)⟩))))))) ⟨fun hx10 => ?_, fun hx10 => ?_⟩))
  · exfalso
    have e5 := eqv_tup (goodI ((1 + r3) * a) ((1 + r3) * b)) (goodI a b)
    rw [good_k a b (by omega)] at e5
    simp only [won_k a b (show 0 < 1 + r3 by omega), good_k a b (show 0 < 1 + r3 by omega), e5, decide_true, Bool.not_true, Bool.or_false] at hx10
    simp at hx10
  · try simp only [decide_eq_true_eq, decide_eq_false_iff_not, Bool.or_eq_true, Bool.and_eq_true, Bool.or_eq_false_iff, Bool.and_eq_false_iff, Bool.not_eq_true', Bool.not_eq_false', Bool.not_true, Bool.not_false, Int.not_lt, Int.not_le] at hx10
    refine sw_next ?_
    -- statement 7
    refine sw_seq (sw_if (tw_or' (tw_test (ew_neB (ew_call (aw_cons (ew_var rfl (aw_cons (ew_var rfl (aw_nil ⟨_, _, rfl, ⟨by omega, by omega, by omega, by omega⟩, ⟨_, rfl, (ew_var rfl ⟨_, rfl, ⟨_, rfl, ⟨rfl, rfl⟩⟩⟩)⟩⟩)))))))) (fun hbx15 => (tw_or' (tw_test (ew_neD (ew_call (aw_cons (ew_var rfl (aw_cons (ew_var rfl (aw_nil ⟨_, _, rfl, ⟨by omega, by omega, by omega, by omega⟩, (ew_var rfl ⟨⟨data_tup _, data_tup _, shaped_tup _, shaped_tup _⟩, ⟨_, rfl, ⟨rfl, rfl⟩⟩⟩)⟩)))))))) (fun hbx17 => (tw_test (ew_neB (ew_neD (ew_var rfl (ew_tup (aw_nil ⟨(by show 0 ≤ 100000; decide), ⟨⟨data_tup _, rfl, shaped_tup _, rfl⟩, ⟨_, rfl, (ew_var rfl ⟨_, rfl, ⟨_, rfl, ⟨rfl, rfl⟩⟩⟩)⟩⟩⟩))))))) ⟨rfl, rfl⟩)) ⟨fun hx14 => ?_, fun hx14 => ?_⟩))
    · exfalso
      have e5 := eqv_tup (goodI b a) (goodI a b)
      rw [good_c b a] at e5
      have e6 := eqv_tup (goodI a b) []
      rw [List.map_nil] at e6
      simp only [won_c b a, good_c b a, e5, e6, good_any (show 0 < a by omega) (show 0 < b by omega), decide_true, Bool.not_true, Bool.or_false] at hx14
      simp at hx14
    · try simp only [decide_eq_true_eq, decide_eq_false_iff_not, Bool.or_eq_true, Bool.and_eq_true, Bool.or_eq_false_iff, Bool.and_eq_false_iff, Bool.not_eq_true', Bool.not_eq_false', Bool.not_true, Bool.not_false, Int.not_lt, Int.not_le] at hx14
      refine sw_next ?_
      -- statement 9
      refine sw_seq (sw_par (aw_cons (ew_max2 (aw_cons (ew_var rfl (aw_cons (ew_var rfl (aw_nil ⟨_, _, rfl, (aw_cons (ew_min2 (aw_cons (ew_var rfl (aw_cons (ew_var rfl (aw_nil ⟨_, _, rfl, (aw_nil ⟨_, _, rfl, ?_⟩)⟩)))))))⟩))))))))
      have hlo : 1 ≤ Gold.lo a b ∧ Gold.lo a b ≤ 100000 := by unfold Gold.lo; split <;> omega
      have hhi : Gold.lo a b ≤ Gold.hi a b ∧ Gold.hi a b ≤ 100000 := by unfold Gold.lo Gold.hi; split <;> split <;> omega
      -- statement 10
      refine sw_seq (sw_for (iw_tup (ew_var rfl ⟨_, rfl, ⟨(fun i ρ c' => c' = c.set n o7 ∧ ∃ y8 y9 : Option P, ρ = [some (.cell n), some (.int a), some (.int b), some (.int (1 + r3)), some (.bl (wonI a b)), some (.tup ((goodI a b).map P.int)), some (.int (Gold.hi a b)), some (.int (Gold.lo a b)), y8, y9]), ⟨rfl, none, none, rfl⟩, fun i p ρ' c' hi hP => ?_, fun ρ' c' hP => ?_⟩⟩)))
      · obtain ⟨rfl, y8, y9, rfl⟩ := hP
        rw [List.getElem?_map] at hi
        obtain ⟨t, ht, rfl⟩ : ∃ t, t ∈ goodI a b ∧ p = .int t := by
          cases e : (goodI a b)[i]? with
          | none => rw [e] at hi; cases hi
          | some z => rw [e] at hi; exact ⟨z, List.mem_of_getElem? e, (Option.some.inj hi).symm⟩
        have hgl := good_l (show 0 < a by omega) (show 0 < b by omega) ht
        have ht0 := good_t ht
        have htl : 0 < t * Gold.lo a b := Int.mul_pos ht0 (by omega)
        refine gw_name ?_
        -- statement 11
        refine sw_seq (sw_set (ew_opI (ew_var rfl ⟨_, rfl, (ew_opC (ew_var rfl ⟨_, rfl, (ew_var rfl ⟨_, rfl, (.inr ⟨show -2 ^ 64 < Gold.lo a b by omega, show Gold.lo a b < 2 ^ 64 by omega⟩), ⟨_, rfl, ?_⟩⟩)⟩))⟩)))
        -- statement 12
        refine sw_if (tw_or' (tw_test (ew_opB (ew_var rfl ⟨_, rfl, (ew_int ⟨_, rfl, ⟨_, rfl, ⟨rfl, rfl⟩⟩⟩)⟩))) (fun hbx20 => (tw_and' (tw_test (ew_opB (ew_var rfl ⟨_, rfl, (ew_int ⟨_, rfl, ⟨_, rfl, ⟨rfl, rfl⟩⟩⟩)⟩))) (fun hbx21 => (tw_test (ew_notB (ew_call (aw_cons (ew_var rfl (aw_cons (ew_var rfl (aw_nil ⟨_, _, rfl, ⟨by simp only [decide_eq_true_eq, gt_iff_lt] at *; omega, show Gold.hi a b - t * Gold.lo a b ≤ 10 ^ 12 by omega, show 1 ≤ Gold.lo a b by omega, show Gold.lo a b ≤ 10 ^ 12 by omega⟩, ⟨_, rfl, (ew_bl ⟨_, rfl, ⟨_, rfl, ⟨rfl, rfl⟩⟩⟩)⟩⟩))))))))) ⟨rfl, rfl⟩)) ⟨fun hx19 => ?_, fun hx19 => ?_⟩)
        · exfalso
          simp only [hgl.2, Bool.or_eq_true, Bool.and_eq_true, decide_eq_true_eq, decide_true, Bool.not_true, Bool.false_eq_true, and_false, or_false] at hx19
          omega
        · try simp only [decide_eq_true_eq, decide_eq_false_iff_not, Bool.or_eq_true, Bool.and_eq_true, Bool.or_eq_false_iff, Bool.and_eq_false_iff, Bool.not_eq_true', Bool.not_eq_false', Bool.not_true, Bool.not_false, Int.not_lt, Int.not_le] at hx19
          refine sw_next ?_
          exact ⟨rfl, _, _, rfl⟩
      · obtain ⟨rfl, y8, y9, rfl⟩ := hP
        -- statement 14
        refine sw_ret (ew_or' (ew_var rfl ⟨rfl, rfl⟩) (fun hbx23 => (ew_in (ew_int (ew_call (aw_cons (ew_opI (ew_var rfl ⟨_, rfl, (ew_var rfl ⟨_, rfl, (aw_cons (ew_var rfl (aw_nil ⟨_, _, rfl, ⟨show 1 ≤ Gold.hi a b + Gold.lo a b by omega, show Gold.hi a b + Gold.lo a b ≤ 10 ^ 12 by omega, show 1 ≤ Gold.lo a b by omega, show Gold.lo a b ≤ 10 ^ 12 by omega⟩, ⟨_, _, rfl, (.t _), ⟨rfl, rfl⟩⟩⟩)))⟩)⟩))))))) ?_)
        refine rt_is (hQ _ ho7) (congrArg P.bl ?_)
        cases hw : wonI a b with
        | true => rfl
        | false =>
          have h1 := lost_1 (show 0 < a by omega) (show 0 < b by omega) hw
          exact decide_eq_true h1
end K22

set_option Elab.async false
set_option linter.all false
set_option maxRecDepth 100000
local macro_rules | `(tactic| walk_at "pl") => `(tactic| first | assumption | rfl | omega | exact PL.get_app | exact PL.get_appS | exact ⟨by omega, by omega⟩ | exact Or.inl ⟨by omega, by omega⟩ | exact Or.inr ⟨by omega, by omega⟩ | (show (0 : Int) < _; omega) | decide | (simp only [List.length_cons, List.length_nil]; omega) | (refine ⟨?_, ?_⟩ <;> first | assumption | omega))
local macro_rules | `(tactic| walk_at "pl end") => `(tactic| first | exact .inl hQ | exact rt_is hQ (by simp))
local macro_rules | `(tactic| walk_at "pl dead") => `(tactic| first | omega | (intros; simp_all; done) | (intros; simp_all; omega))
namespace K22
open PySem PySem.Spec PyProof.Rows L2 Evl PL
variable {K : PySem.W.Frag} {P₀ : Program} {w : World} {mg : Str → Option Value} {base : Heap}
theorem parts_last {n : Int} (h : 1 ≤ n) : ∃ L, partsI n = L ++ [lastI n] := by
  unfold partsI lastI
  have hne := Gold.parts_ne (n := n) (by omega)
  refine ⟨(Gold.parts n).dropLast, ?_⟩
  rw [List.getLastD_eq_getLast?, List.getLast?_eq_some_getLast hne]
  exact (List.dropLast_concat_getLast hne).symm
theorem apart_end : ∀ (M : List Int) {y x : Int}, Gold.apart (M ++ [y, x]) → 2 * x < y
  | [], y, x, h => h.1
  | [a], y, x, h => apart_end [] h.2
  | a :: b :: M, y, x, h => apart_end (b :: M) h.2
theorem apart_zip : ∀ {L : List Int}, Gold.apart L → ∀ z ∈ L.zip (L.drop 1), ¬ z.1 < 2 * z.2
  | [], _, z, hz => by cases hz
  | [a], _, z, hz => by cases hz
  | a :: b :: r, h, z, hz => by
    have e : (a :: b :: r).zip ((a :: b :: r).drop 1) = (a, b) :: (b :: r).zip ((b :: r).drop 1) := rfl
    rw [e] at hz
    rcases List.mem_cons.mp hz with rfl | hz
    · have := h.1
      dsimp only
      omega
    · exact apart_zip h.2 z hz
theorem zip_no {n : Int} (h : 1 ≤ n) : (((partsI n).zip ((partsI n).drop 1)).map fun z => decide (z.1 < 2 * z.2)).any id = false := by
  rw [List.any_map, List.any_eq_false]
  intro z hz hb
  unfold partsI at hz
  exact apart_zip (Gold.parts_apart (by omega)) z hz (of_decide_eq_true hb)
theorem part_in {n x : Int} (h : x ∈ partsI n) : 0 < x ∧ x ≤ n ∧ partsI x = [x] := by
  unfold partsI at h ⊢
  exact Gold.parts_mem h
theorem len_no {n : Int} : ((partsI n).map fun x => !decide ((((partsI x).map P.int).length : Int) = 1)).any id = false := by
  rw [List.any_map, List.any_eq_false]
  intro x hx hb
  have e := (part_in hx).2.2
  simp [e] at hb
theorem last_in {n : Int} (h : 1 ≤ n) : lastI n ∈ partsI n := by
  obtain ⟨L, e⟩ := parts_last h
  rw [e]; simp
theorem last_bd {n : Int} (h : 1 ≤ n) : 1 ≤ lastI n ∧ lastI n ≤ n := by
  have := part_in (last_in h)
  omega
theorem first_in {n : Int} (h : 1 ≤ n) : (partsI n).getD 0 0 ∈ partsI n := by
  obtain ⟨L, e⟩ := parts_last h
  rw [e]
  cases L with
  | nil => simp
  | cons a L => simp
theorem part_pos {n : Int} (h : 1 ≤ n) : 0 < (partsI n).length := by
  obtain ⟨L, e⟩ := parts_last h
  rw [e]; simp
theorem gr_len : ∀ (k : Nat) (n : Int), (Gold.gr k n).length ≤ k
  | 0, _ => Nat.zero_le _
  | k + 1, n => by
    unfold Gold.gr
    split
    · have := gr_len k (n - Gold.F k)
      rw [List.length_cons]; omega
    · have := gr_len k n
      omega
theorem parts_len {n : Int} (h : 1 ≤ n) (h2 : n ≤ 10 ^ 12) : (partsI n).length ≤ 90000 := by
  have h1 := F_exp 100
  have h3 : (2 : Int) ^ (100 / 2) = 1125899906842624 := by decide
  unfold partsI
  rw [← Gold.parts_at (k := 100) (by omega) (by omega)]
  have := gr_len 100 n
  omega
theorem sum_of {n : Int} (h : 1 ≤ n) : (partsI n).sum = n := by unfold partsI; exact Gold.parts_sum (by omega)
theorem less_is {n : Int} (h : 1 ≤ n) : partsI (n - lastI n) ++ [lastI n] = partsI n := by
  obtain ⟨L, e⟩ := parts_last h
  have e2 : Gold.parts n = L ++ [lastI n] := by unfold partsI at e; exact e
  have := Gold.parts_less (by omega) e2
  unfold partsI at e ⊢
  rw [this, ← e2]
theorem less_last {n : Int} (h : 1 ≤ n) (hl : lastI n < n) : 2 * lastI n < lastI (n - lastI n) := by
  obtain ⟨M, e⟩ := parts_last (n := n - lastI n) (by omega)
  have e2 := less_is h
  rw [e] at e2
  have ha : Gold.apart (partsI n) := by unfold partsI; exact Gold.parts_apart (by omega)
  rw [← e2, List.append_assoc] at ha
  exact apart_end M ha
theorem sum_pos : ∀ {L : List Int}, (∀ x ∈ L, 0 < x) → L ≠ [] → 0 < L.sum
  | [], _, h => absurd rfl h
  | [x], h, _ => by have := h x (by simp); simpa using this
  | x :: y :: r, h, _ => by
    have h1 := h x (by simp)
    have h2 := sum_pos (L := y :: r) (fun z hz => h z (List.mem_cons_of_mem _ hz)) (by simp)
    rw [List.sum_cons]; omega
theorem last_one {n : Int} (h : 1 ≤ n) : decide (lastI n ≤ n - 1) = decide ((((partsI n).map P.int).length : Int) > 1) := by
  obtain ⟨L, e⟩ := parts_last h
  have hs := sum_of h
  rw [List.length_map]
  congr 1
  rw [e, List.sum_append, List.sum_singleton] at hs
  rw [e, List.length_append, List.length_singleton]
  refine propext ?_
  cases L with
  | nil =>
    simp at hs ⊢
    omega
  | cons a L =>
    have := sum_pos (L := a :: L) (fun x hx => (part_in (n := n) (by rw [e]; exact List.mem_append_left _ hx)).1) (by simp)
    rw [List.length_cons]
    constructor <;> intro _ <;> omega
theorem cut_drop (xs : List P) : cutP xs (some 1) none = xs.drop 1 := by
  unfold cutP
  rw [HT.sIx_none, show HT.sIx xs.length 0 (some 1) = min 1 xs.length from HT.sIx_nat _ _ 1]
  cases xs with
  | nil => rfl
  | cons x r =>
    rw [Nat.min_eq_left (by simp)]
    rw [List.take_of_length_le (by simp)]
theorem zip_cut (ns : List Int) : zipP (ns.map P.int) (cutP (ns.map P.int) (some 1) none) = (ns.zip (ns.drop 1)).map pairI := by
  rw [cut_drop, ← List.map_drop, zip_ints]
theorem cut_some {n : Int} (h : 1 ≤ n) : ¬ (HT.sIx ((partsI n).map P.int).length 0 (some 1) = 0 ∧ HT.sIx ((partsI n).map P.int).length ((partsI n).map P.int).length none = ((partsI n).map P.int).length) := by
  have := part_pos h
  rw [show HT.sIx ((partsI n).map P.int).length 0 (some 1) = min 1 ((partsI n).map P.int).length from HT.sIx_nat _ _ 1, List.length_map]
  omega

abbrev N__law_are_doubles_right : List Str := ["pot", "number", "some", "least", "bound", "is_won", "one", "other", "part"]
theorem sc__law_are_doubles_right : FnScope N__law_are_doubles_right ["pot"] (defScope s__law_are_doubles_right) := ⟨rfl, rfl, rfl, by decide +kernel, rfl, by decide +kernel, by decide +kernel⟩
set_option maxHeartbeats 4000000 in
theorem ok__law_are_doubles_right (G : GF K mg) (c__law_great : Cl P₀ w K mg base 2 "_law_great" S_law_great) (c_parted : Cl P₀ w K mg base 3 "parted" S_parted) (c__law_take : Cl P₀ w K mg base 1 "_law_take" S_law_take) (c_double_take : Cl P₀ w K mg base 4 "double_take" S_double_take) (c_double_wins : Cl P₀ w K mg base 4 "double_wins" S_double_wins) : Cl P₀ w K mg base 5 "_law_are_doubles_right" S_law_are_doubles_right := by
  refine pfn G.d__law_are_doubles_right sc__law_are_doubles_right (fun _ _ _ _ _ _ us hl => match us, hl with | [_], _ => rfl) (fun qs c Q h => ?_) (fun f cdv A outer s H E hr => ?_)
  · obtain ⟨n, k, o, rfl, ⟨hc, ho, hk⟩, hQ⟩ := h; rfl
  have hu := hr.units
  refine ⟨_, (pss_cons (ps_set (i := 1) sc__law_are_doubles_right.nd rfl (Or.inl rfl) (pe_cl c__law_great ⟨rfl, rfl, rfl, rfl, rfl⟩ hr (by omega) rfl (pa_cons (pv 0) (pa_cons pe_int pa_nil)))) (pss_cons (ps_set (i := 2) sc__law_are_doubles_right.nd rfl (Or.inl rfl) (pe_cl c_parted ⟨rfl, rfl, rfl, rfl, rfl⟩ hr (by omega) rfl (pa_cons (pv 1) pa_nil))) (pss_cons (ps_if (PW.pt (pw_or (pt_cmpR op_ne (pe_callB (cr_sumT (K := K) rfl rfl) rfl G.b_sum boot_sum (pa_cons (pv 2) pa_nil)) (pv 1) (nomark _)) (pw_or1 (pt_val (pe_callB (cr_any' (K := K) rfl rfl) rfl G.b_any boot_any (pa_cons (pe_lc (own := [("one", 6), ("other", 7)]) rfl sc__law_are_doubles_right.nd (pi_zip2 (K := K) false false rfl rfl G.b_zip (pa_cons (pv 2) (pa_cons (pe_slice (sl_tup' (K := K) rfl) (pv 2) (po_some pe_int) po_none) pa_nil))) (blkOk_by (N := N__law_are_doubles_right) (sc := defScope s__law_are_doubles_right) (by decide +kernel)) (fun _ _ _ _ _ => (pg_tup' (K := K) (n := 2) rfl rfl (pgs_cons (pg_name (i := 6) sc__law_are_doubles_right.nd rfl (by first | exact Or.inl rfl | exact Or.inr rfl)) (pgs_cons (pg_name (i := 7) sc__law_are_doubles_right.nd rfl (by first | exact Or.inl rfl | exact Or.inr rfl)) pgs_nil)))) (fun _ _ _ _ _ => pts_nil) (fun _ _ _ _ _ => (pe_cmpR op_lt (pv 6) (pe_op op_mul pe_int (pv 7)) (nomark _)))) pa_nil)))))) (pss_one (ps_ret pe_bl)) pss_nil) (pss_cons (ps_if (PW.pt (pw_or (pt_val (pe_callB (cr_any' (K := K) rfl rfl) rfl G.b_any boot_any (pa_cons (pe_lc (own := [("part", 8)]) rfl sc__law_are_doubles_right.nd (pi_tup' (K := K) rfl (pv 2)) (blkOk_by (N := N__law_are_doubles_right) (sc := defScope s__law_are_doubles_right) (by decide +kernel)) (fun _ _ _ _ _ => (pg_name (i := 8) sc__law_are_doubles_right.nd rfl (by first | exact Or.inl rfl | exact Or.inr rfl))) (fun _ _ _ _ _ => pts_nil) (fun _ _ _ _ _ => (pe_cmpR op_ne (pe_callB (call_len_seq' (K := K) rfl) rfl G.b_len boot_len (pa_cons (pe_cl c_parted ⟨rfl, rfl, rfl, rfl, rfl⟩ hr (by omega) rfl (pa_cons (pv 8) pa_nil)) pa_nil)) pe_int (nomark _)))) pa_nil))) (pw_or1 (pt_cmpR (op_neD' (K := K) rfl hu) (pe_cl c_parted ⟨rfl, rfl, rfl, rfl, rfl⟩ hr (by omega) rfl (pa_cons (pe_ix (ix_tup' (K := K) rfl) (pv 2) pe_int (fun _ _ => rfl)) pa_nil)) (pe_tup (pa_cons (pe_ix (ix_tup' (K := K) rfl) (pv 2) pe_int (fun _ _ => rfl)) pa_nil)) (nomark _))))) (pss_one (ps_ret pe_bl)) pss_nil) (pss_cons (ps_set (i := 3) sc__law_are_doubles_right.nd rfl (Or.inl rfl) (pe_ix (ix_tup' (K := K) rfl) (pv 2) (pe_un un_neg pe_int) (fun _ _ => rfl))) (pss_cons (ps_for PassesOwn.never rfl (pi_tup' (K := K) rfl (pe_tup (pa_cons (pv 3) (pa_cons (pe_op op_add (pv 3) (pe_cl c__law_take ⟨rfl, rfl, rfl, rfl, rfl⟩ hr (by omega) rfl (pa_cons (pv 0) (pa_cons pe_int pa_nil)))) (pa_cons (pe_callB (call_max2 rfl) rfl G.b_max boot_max (pa_cons pe_int (pa_cons (pe_op op_sub (pv 3) pe_int) pa_nil))) (pa_cons (pv 1) pa_nil)))))) (pg_name (i := 4) sc__law_are_doubles_right.nd rfl (Or.inl rfl)) (pss_cons (ps_set (i := 5) sc__law_are_doubles_right.nd rfl (Or.inl rfl) (pe_cmpR op_ge (pv 4) (pv 3) (nomark _))) (pss_one (ps_if (PW.pt (pw_or (pt_cmpR op_ne (pe_cl c_double_wins ⟨rfl, rfl, rfl, rfl, rfl⟩ hr (by omega) rfl (pa_cons (pv 1) (pa_cons (pv 4) pa_nil))) (pv 5) (nomark _)) (pw_or1 (pt_cmpR (op_neD' (K := K) rfl hu) (pe_cl c_double_take ⟨rfl, rfl, rfl, rfl, rfl⟩ hr (by omega) rfl (pa_cons (pv 1) (pa_cons (pv 4) pa_nil))) (pe_ifExp (pt_val (pv 5)) (pv 3) pe_non) (nomark _))))) (pss_one (ps_ret pe_bl)) pss_nil)))) (pss_cons (ps_if (PW.pt (pw_and (pt_cmpR op_gt (pv 1) (pv 3) (nomark _)) (pw_and1 (pt_cmpR op_notBl (pe_cl c_double_wins ⟨rfl, rfl, rfl, rfl, rfl⟩ hr (by omega) rfl (pa_cons (pe_op op_sub (pv 1) (pv 3)) (pa_cons (pe_op op_mul pe_int (pv 3)) pa_nil))) pe_bl (nomark _))))) (pss_one (ps_ret pe_bl)) pss_nil) (pss_one (ps_ret (pe_or (pe_cmpR op_eq (pv 1) pe_int (nomark _)) (pe_one (pe_cmpR op_eq (pe_cl c_double_wins ⟨rfl, rfl, rfl, rfl, rfl⟩ hr (by omega) rfl (pa_cons (pv 1) (pa_cons (pe_op op_sub (pv 1) pe_int) pa_nil))) (pe_cmpR op_gt (pe_callB (call_len_seq' (K := K) rfl) rfl G.b_len boot_len (pa_cons (pv 2) pa_nil)) pe_int (nomark _)) (nomark _))))))))))))), fun qs c Q hS hb => ?_⟩
  obtain ⟨n, k, o, rfl, ⟨hc, ho, hk⟩, hQ⟩ := hS
  -- statement 1
  refine sw_seq (sw_set (ew_call (aw_cons (ew_var rfl (aw_cons (ew_int (aw_nil ⟨_, _, _, _, rfl, ⟨hc, ho, by omega⟩, ⟨by decide, by decide⟩, fun r1 o1 hr1 ho1 => ?_⟩)))))))
  have hten : (10 : Int) ^ (11 : Int).toNat = 100000000000 := by decide
  rw [hten] at hr1
  generalize r1 = nb at hr1 ⊢
  have hps := part_pos hr1.1
  have hlb := last_bd hr1.1
  have hpl := parts_len hr1.1 (by omega)
  have hfi := part_in (first_in hr1.1)
  -- statement 2
  refine sw_seq (sw_set (ew_call (aw_cons (ew_var rfl (aw_nil ⟨_, rfl, ⟨hr1.1, by omega⟩, ?_⟩)))))
  -- statement 3
  refine sw_seq (sw_if (tw_or' (tw_test (ew_neI (ew_sumT (ew_var rfl ⟨_, rfl, ⟨_, rfl, (ew_var rfl ⟨_, rfl, ⟨_, rfl, ⟨rfl, rfl⟩⟩⟩)⟩⟩)))) (fun hbx4 => (tw_B (ew_any (ew_lcM pairI ((partsI nb).zip ((partsI nb).drop 1)) (fun z => P.bl (decide (z.1 < 2 * z.2))) (gc_tup (gcs_cons (gc_name (by decide)) (gcs_cons (gc_name (by decide)) gcs_nil))) (iw_zip2 (aw_cons (ew_var rfl (aw_cons (ew_slT (ew_var rfl (ow_some (ew_int ⟨_, rfl, (ow_none ⟨_, rfl, (cut_some hr1.1), (aw_nil ⟨_, _, _, _, rfl, (.tup _), (.tup _), ⟨(zip_cut _), rfl⟩⟩)⟩)⟩)))))))) (by rw [List.length_zip]; omega) (fun x hx => gw_tup rfl (gws_cons (gw_name (gws_cons (gw_name (gws_nil ⟨rfl, (tw_yes ⟨rfl, rfl⟩), fun hf => (ew_opB (ew_var rfl ⟨_, rfl, (ew_opC (ew_int ⟨_, rfl, (ew_var rfl ⟨_, rfl, (Or.inl ⟨by decide, by decide⟩), ⟨_, rfl, ⟨rfl, rfl⟩⟩⟩)⟩))⟩))⟩)))))) ⟨(((partsI nb).zip ((partsI nb).drop 1)).map fun z => decide (z.1 < 2 * z.2)), (LstOf.of (.lst _) (by rw [List.map_map]; rfl)), ⟨_, rfl, ⟨rfl, rfl⟩⟩⟩)))) ⟨fun hx3 => ?_, fun hx3 => ?_⟩))
  · exfalso
    simp only [sum_of hr1.1, zip_no hr1.1, decide_true, Bool.not_true, Bool.or_false, Bool.false_eq_true] at hx3
  · try simp only [decide_eq_true_eq, decide_eq_false_iff_not, Bool.or_eq_true, Bool.and_eq_true, Bool.or_eq_false_iff, Bool.and_eq_false_iff, Bool.not_eq_true', Bool.not_eq_false', Bool.not_true, Bool.not_false, Int.not_lt, Int.not_le] at hx3
    refine sw_next ?_
    -- statement 5
    refine sw_seq (sw_if (tw_or' (tw_B (ew_any (ew_lcM P.int (partsI nb) (fun x => P.bl (!decide ((((partsI x).map P.int).length : Int) = 1))) (gc_name (by decide)) (iw_tup (ew_var rfl ⟨_, rfl, ⟨rfl, rfl⟩⟩)) (by omega) (fun x hx => have hx := part_in hx; gw_name ⟨rfl, (tw_yes ⟨rfl, rfl⟩), fun hf => (ew_neI (ew_len (ew_call (aw_cons (ew_var rfl (aw_nil ⟨_, rfl, ⟨by omega, by omega⟩, ⟨_, (.t _), ⟨_, rfl, (ew_int ⟨_, rfl, ⟨rfl, rfl⟩⟩)⟩⟩⟩))))))⟩) ⟨((partsI nb).map fun x => !decide ((((partsI x).map P.int).length : Int) = 1)), (LstOf.of (.lst _) (by rw [List.map_map]; rfl)), ⟨_, rfl, ⟨rfl, rfl⟩⟩⟩))) (fun hbx6 => (tw_test (ew_neD (ew_call (aw_cons (ew_ixT (ew_var rfl (ew_int ⟨_, _, _, rfl, rfl, (atI_ints (by decide) (by omega)), (aw_nil ⟨_, rfl, ⟨show 1 ≤ (partsI nb).getD 0 0 by omega, show (partsI nb).getD 0 0 ≤ 10 ^ 12 by omega⟩, (ew_tup (aw_cons (ew_ixT (ew_var rfl (ew_int ⟨_, _, _, rfl, rfl, (atI_ints (by decide) (by omega)), (aw_nil ⟨(by show 1 ≤ 100000; decide), ⟨⟨data_tup _, data_tup [_], shaped_tup _, shaped_tup [_]⟩, ⟨_, rfl, ⟨rfl, rfl⟩⟩⟩⟩)⟩)))))⟩)⟩)))))))) ⟨fun hx5 => ?_, fun hx5 => ?_⟩))
    · exfalso
      have e5 := eqv_tup (partsI ((partsI nb).getD (0 : Int).toNat 0)) [(partsI nb).getD (0 : Int).toNat 0]
      have e6 : partsI ((partsI nb).getD (0 : Int).toNat 0) = [(partsI nb).getD (0 : Int).toNat 0] := hfi.2.2
      rw [decide_eq_true e6] at e5
      have e7 := len_no (n := nb)
      simp only [Bool.or_eq_true, e7] at hx5
      rcases hx5 with z | z
      · cases z
      · have z2 : (!PyData.eqv (P.tup ((partsI ((partsI nb).getD (0 : Int).toNat 0)).map P.int)).toD (P.tup ([(partsI nb).getD (0 : Int).toNat 0].map P.int)).toD) = true := z
        rw [e5] at z2
        cases z2
    · try simp only [decide_eq_true_eq, decide_eq_false_iff_not, Bool.or_eq_true, Bool.and_eq_true, Bool.or_eq_false_iff, Bool.and_eq_false_iff, Bool.not_eq_true', Bool.not_eq_false', Bool.not_true, Bool.not_false, Int.not_lt, Int.not_le] at hx5
      refine sw_next ?_
      -- statement 7
      refine sw_seq (sw_set (ew_ixT (ew_var rfl (ew_un (ew_int ⟨_, rfl, ⟨_, _, _, rfl, rfl, (last_at hr1.1), ?_⟩⟩)))))
      -- statement 8
      refine sw_seq (sw_for (iw_tup (ew_tup (aw_cons (ew_var rfl (aw_cons (ew_opI (ew_var rfl ⟨_, rfl, (ew_call (aw_cons (ew_var rfl (aw_cons (ew_int (aw_nil ⟨_, _, _, _, rfl, ⟨set_get hc, ho1, by omega⟩, ⟨by decide, by decide⟩, fun r2 o2 hr2 ho2 => ⟨_, rfl, (aw_cons (ew_max2 (aw_cons (ew_int (aw_cons (ew_opI (ew_var rfl ⟨_, rfl, (ew_int ⟨_, rfl, (aw_nil ⟨_, _, rfl, (aw_cons (ew_var rfl (aw_nil ⟨(by show 4 ≤ 100000; decide), ⟨_, rfl, ⟨(fun i ρ c' => c' = c.set n o2 ∧ ∃ y4 y5 y6 y7 y8 : Option P, ρ = [some (.cell n), some (.int nb), some (.tup ((partsI nb).map P.int)), some (.int (lastI nb)), y4, y5, y6, y7, y8]), ⟨by rw [List.set_set], _, _, _, _, _, rfl⟩, fun i p ρ' c' hi hP => ?_, fun ρ' c' hP => ?_⟩⟩⟩)))⟩)⟩)⟩)))))))⟩⟩))))))⟩))))))))
      · obtain ⟨rfl, y4, y5, y6, y7, y8, rfl⟩ := hP
        obtain ⟨b, rfl, hb2⟩ : ∃ b, p = .int b ∧ (1 ≤ b ∧ b ≤ 10 ^ 12) := by
          have hi2 : i < 4 := (List.getElem?_eq_some_iff.mp hi).1
          have e : i = 0 ∨ i = 1 ∨ i = 2 ∨ i = 3 := by omega
          rcases e with rfl | rfl | rfl | rfl
          · injection hi with hi; exact ⟨_, hi.symm, by omega⟩
          · injection hi with hi; exact ⟨_, hi.symm, by omega⟩
          · injection hi with hi; exact ⟨_, hi.symm, by split <;> omega⟩
          · injection hi with hi; exact ⟨_, hi.symm, by omega⟩
        refine gw_name ?_
        -- statement 9
        refine sw_seq (sw_set (ew_opB (ew_var rfl ⟨_, rfl, (ew_var rfl ⟨_, rfl, ?_⟩)⟩)))
        -- statement 10
        refine sw_if (tw_or' (tw_test (ew_neB (ew_call (aw_cons (ew_var rfl (aw_cons (ew_var rfl (aw_nil ⟨_, _, rfl, ⟨by omega, by omega, by omega, by omega⟩, ⟨_, rfl, (ew_var rfl ⟨_, rfl, ⟨_, rfl, ⟨rfl, rfl⟩⟩⟩)⟩⟩)))))))) (fun hbx11 => (tw_test (ew_neD (ew_call (aw_cons (ew_var rfl (aw_cons (ew_var rfl (aw_nil ⟨_, _, rfl, ⟨by omega, by omega, by omega, by omega⟩, (ew_if' (tw_B (ew_var rfl ⟨_, rfl, ⟨rfl, rfl⟩⟩)) (fun hix13 => (ew_var rfl ⟨rfl, rfl⟩)) (fun hix13 => (ew_non ⟨rfl, rfl⟩)) ⟨⟨by split <;> rfl, by split <;> rfl, by split <;> rfl, by split <;> rfl⟩, ⟨_, rfl, ⟨rfl, rfl⟩⟩⟩)⟩))))))))) ⟨fun hx10 => ?_, fun hx10 => ?_⟩)
        · exfalso
          have eb : decide (lastI nb ≤ b) = decide (b ≥ lastI nb) := rfl
          rw [eb] at hx10
          have e5 : PyData.eqv (P.int (lastI nb)).toD (P.int (lastI nb)).toD = true := by show PyData.eqv (.int (lastI nb)) (.int (lastI nb)) = true; simp [PyData.eqv]
          cases hz : decide (b ≥ lastI nb) with
          | true => simp [hz, e5] at hx10
          | false => simp [hz] at hx10; exact absurd hx10 (by decide)
        · try simp only [decide_eq_true_eq, decide_eq_false_iff_not, Bool.or_eq_true, Bool.and_eq_true, Bool.or_eq_false_iff, Bool.and_eq_false_iff, Bool.not_eq_true', Bool.not_eq_false', Bool.not_true, Bool.not_false, Int.not_lt, Int.not_le] at hx10
          refine sw_next ?_
          exact ⟨rfl, _, _, _, _, _, rfl⟩
      · obtain ⟨rfl, y4, y5, y6, y7, y8, rfl⟩ := hP
        -- statement 12
        refine sw_seq (sw_if (tw_and' (tw_test (ew_opB (ew_var rfl ⟨_, rfl, (ew_var rfl ⟨_, rfl, ⟨_, rfl, ⟨rfl, rfl⟩⟩⟩)⟩))) (fun hbx16 => (tw_test (ew_notB (ew_call (aw_cons (ew_opI (ew_var rfl ⟨_, rfl, (ew_var rfl ⟨_, rfl, (aw_cons (ew_opC (ew_int ⟨_, rfl, (ew_var rfl ⟨_, rfl, (Or.inl ⟨by decide, by decide⟩), (aw_nil ⟨_, _, rfl, ⟨by simp only [decide_eq_true_eq, gt_iff_lt] at *; omega, by omega, by omega, by omega⟩, ⟨_, rfl, (ew_bl ⟨_, rfl, ⟨_, rfl, ⟨rfl, rfl⟩⟩⟩)⟩⟩)⟩)⟩)))⟩)⟩))))))) ⟨fun hx15 => ?_, fun hx15 => ?_⟩))
        · exfalso
          simp only [Bool.and_eq_true, gt_iff_lt, decide_eq_true_eq, Bool.not_eq_true', decide_eq_false_iff_not] at hx15
          have := less_last hr1.1 hx15.1
          omega
        · try simp only [decide_eq_true_eq, decide_eq_false_iff_not, Bool.or_eq_true, Bool.and_eq_true, Bool.or_eq_false_iff, Bool.and_eq_false_iff, Bool.not_eq_true', Bool.not_eq_false', Bool.not_true, Bool.not_false, Int.not_lt, Int.not_le] at hx15
          refine sw_next ?_
          -- statement 14
          refine sw_ret (ew_or' (ew_eqI (ew_var rfl ⟨_, rfl, (ew_int ⟨_, rfl, ⟨rfl, rfl⟩⟩)⟩)) (fun hbx18 => (ew_eqB (ew_call (aw_cons (ew_var rfl (aw_cons (ew_opI (ew_var rfl ⟨_, rfl, (ew_int ⟨_, rfl, (aw_nil ⟨_, _, rfl, ⟨by omega, by omega, by simp only [decide_eq_false_iff_not] at *; omega, by omega⟩, ⟨_, rfl, (ew_opB (ew_len (ew_var rfl ⟨_, (.t _), ⟨_, rfl, (ew_int ⟨_, rfl, ⟨_, rfl, ⟨rfl, rfl⟩⟩⟩)⟩⟩)))⟩⟩)⟩)⟩)))))))) ?_)
          refine rt_is (hQ _ (ho2.mono (by omega))) (congrArg P.bl ?_)
          cases hw : decide (nb = 1) with
          | true => rfl
          | false => exact decide_eq_true (last_one hr1.1)
end K22

set_option Elab.async false
set_option linter.all false
set_option maxRecDepth 100000
local macro_rules | `(tactic| walk_at "pl") => `(tactic| first | assumption | rfl | omega | exact PL.get_app | exact PL.get_appS | exact ⟨by omega, by omega⟩ | exact Or.inl ⟨by omega, by omega⟩ | exact Or.inr ⟨by omega, by omega⟩ | (show (0 : Int) < _; omega) | decide | (simp only [List.length_cons, List.length_nil]; omega) | (refine ⟨?_, ?_⟩ <;> first | assumption | omega))
local macro_rules | `(tactic| walk_at "pl end") => `(tactic| first | exact .inl hQ | exact rt_is hQ (by simp))
local macro_rules | `(tactic| walk_at "pl dead") => `(tactic| first | omega | (intros; simp_all; done) | (intros; simp_all; omega))
namespace K22
open PySem PySem.Spec PyProof.Rows L2 Evl PL
variable {K : PySem.W.Frag} {P₀ : Program} {w : World} {mg : Str → Option Value} {base : Heap}
theorem ew_lcD {K : PySem.W.Frag} {c : List Ob} {ρ : PR} {Q : PQ} {wi : TI} {g : TG} {tt : TT} {te : TE} {vs : List Nat} (n k0 M : Nat) (u : Int) (hM : M ≤ 1000) (hg : GC g vs)
    (hI : IW K wi ρ c fun items c1 => ∃ o1, c1 = c.set n o1 ∧ IsPot k0 o1 ∧ 1 ≤ items.length ∧ items.length ≤ M)
    (turn : ∀ (p : P) (i : Nat) (o' : Ob), i < M → IsPot (k0 + i) o' → GW K g p (wipeP ρ vs) (c.set n o') fun ρ2 c2 => c2 = c.set n o' ∧ TW K tt ρ2 (c.set n o') (fun b c3 => b = true ∧ c3 = c.set n o') ∧
      EW K te ρ2 (c.set n o') fun y c4 => ∃ (r : Int) (o2 : Ob), y = .int r ∧ (0 ≤ r ∧ r < u) ∧ c4 = (c.set n o').set n o2 ∧ IsPot (k0 + i + 1) o2)
    (q : ∀ (hs : List Int) (o2 : Ob), (1 ≤ hs.length ∧ hs.length ≤ M) → (∀ x ∈ hs, 0 ≤ x ∧ x < u) → IsPot (k0 + M) o2 → Q (.lst (hs.map P.int)) (c.set n o2)) : EW K (tLc wi g tt te vs) ρ c Q :=
  ew_lc hg (hI.mono fun items c1 ⟨o1, ec, ho1, h1, h2⟩ => by
    subst ec
    refine ⟨by omega, fun i acc c' => ∃ (hs : List Int) (o2 : Ob), acc = hs.map P.int ∧ c' = c.set n o2 ∧ hs.length = i ∧ (∀ x ∈ hs, 0 ≤ x ∧ x < u) ∧ IsPot (k0 + i) o2, ⟨[], o1, rfl, rfl, rfl, fun x hx => (by cases hx), ho1⟩, fun i p acc c' hi ⟨hs, o2, ea, ec, el, hb, ho⟩ => ?_, fun acc c' ⟨hs, o2, ea, ec, el, hb, ho⟩ => ?_⟩
    · subst ea ec
      have hil := (List.getElem?_eq_some_iff.mp hi).1
      refine (turn p i o2 (by omega) ho).mono fun ρ2 c2 ⟨e1, ht, hel⟩ => ?_
      subst e1
      refine ht.mono fun b c3 ⟨eb, e3⟩ => ?_
      subst e3 eb
      refine ⟨fun _ => hel.mono fun y c4 ⟨r, o3, ey, hr, e4, ho3⟩ => ?_, fun hb => (by cases hb)⟩
      refine ⟨hs ++ [r], o3, by rw [ey, List.map_append]; rfl, by rw [e4, List.set_set], by rw [List.length_append, el]; rfl, fun x hx => ?_, ho3⟩
      rcases List.mem_append.mp hx with z | z
      · exact hb x z
      · rw [List.mem_singleton] at z; rw [z]; exact hr
    · subst ea ec
      exact q hs o2 (by omega) hb (ho.mono (by omega)))
theorem at_mem {l : List Int} {x : Int} (h : x ∈ l) : ∃ i, i < l.length ∧ x = Moore.at_ l i := by
  obtain ⟨i, hi, rfl⟩ := List.getElem_of_mem h
  refine ⟨i, hi, ?_⟩
  unfold Moore.at_
  rw [List.getD_eq_getElem?_getD, List.getElem?_eq_getElem hi]; rfl
theorem at_in {l : List Int} {i : Nat} (h : i < l.length) : Moore.at_ l i ∈ l := by
  unfold Moore.at_
  rw [List.getD_eq_getElem?_getD, List.getElem?_eq_getElem h]
  exact List.getElem_mem h
theorem told_heaps {hs td : List Int} {m : Nat} {fr : List Nat} (hh : HsOk hs) (T : Moore.Told m hs td fr) : HsOk td := by
  refine ⟨by rw [T.len]; exact hh.1, fun x hx => ?_⟩
  obtain ⟨i, hi, rfl⟩ := at_mem hx
  have h1 := T.nn i
  have h2 := T.le i
  have h3 := (hh.2 _ (at_in (l := hs) (i := i) (by rw [← T.len]; exact hi))).2
  omega
theorem outI_nat (m : Nat) (hs : List Int) : outI (m : Int) hs = Moore.out m hs := by unfold outI; rw [Int.toNat_natCast]
theorem told_out {hs td : List Int} {m : Nat} {fr : List Nat} (T : Moore.Told m hs td fr) : outI (m : Int) td = true := by
  rw [outI_nat]; exact Moore.out_all T.done
theorem told_some {hs td : List Int} {m : Nat} {fr : List Nat} (T : Moore.Told m hs td fr) (h : outI (m : Int) hs = false) : 1 ≤ Moore.lessN hs td ∧ Moore.lessN hs td ≤ m := by
  rw [outI_nat] at h
  have h1 := T.some_ h
  have h2 := T.few
  rw [T.count]
  cases fr with
  | nil => exact absurd rfl h1
  | cons a r => exact ⟨by simp, h2⟩
theorem told_shows {hs td : List Int} {m : Nat} {fr : List Nat} (hh : HsOk hs) (T : Moore.Told m hs td fr) (h : outI (m : Int) hs = false) : showsB hs (m : Int) td = true := by
  have h1 := told_some T h
  unfold showsB
  rw [heaps_ok (told_heaps hh T), decide_eq_true T.len, told_out T, decide_eq_true (show (1 : Int) ≤ (Moore.lessN hs td : Int) by omega), decide_eq_true (show (Moore.lessN hs td : Int) ≤ (m : Int) by omega)]
  have : (List.range hs.length).all (fun i => decide (Moore.at_ td i ≤ Moore.at_ hs i)) = true := by
    rw [List.all_eq_true]
    exact fun i _ => decide_eq_true (T.le i)
  rw [this]; rfl
theorem shows_self (hs : List Int) (m : Int) : showsB hs m hs = false := by
  unfold showsB
  rw [Moore.less_self]
  simp
theorem shows_len {hs vs : List Int} {m : Int} (h : vs.length ≠ hs.length) : showsB hs m vs = false := by
  unfold showsB
  rw [decide_eq_false h]
  simp
theorem ito_range {n : Nat} {ms : List Int} (h : ms.Perm (rangeI 0 n)) : (ms.map Int.toNat).Perm (List.range n) := by
  have := h.map Int.toNat
  have e : (rangeI 0 n).map Int.toNat = List.range n := by
    unfold rangeI
    rw [List.map_map]
    refine (List.map_congr_left fun i _ => ?_).trans (List.map_id _)
    show ((0 : Int) + (i : Int)).toNat = i
    omega
  rw [e] at this
  exact this
theorem pick_is (l ms : List Int) : (ms.map fun x => l.getD x.toNat 0) = Moore.pick l (ms.map Int.toNat) := by
  unfold Moore.pick
  rw [List.map_map]; rfl
theorem heaps_perm {l l' : List Int} (h : l.Perm l') (hh : HsOk l') : HsOk l := ⟨by rw [h.length_eq]; exact hh.1, fun x hx => hh.2 x (h.mem_iff.mp hx)⟩
theorem pick_ok {l ms : List Int} (h : ms.Perm (rangeI 0 l.length)) (hh : HsOk l) : HsOk (ms.map fun x => l.getD x.toNat 0) := by
  rw [pick_is]
  exact heaps_perm (Moore.pick_perm (ito_range h)) hh
theorem pick_shows {hs td ms : List Int} {m : Int} (hl : td.length = hs.length) (hh : HsOk td) (h : ms.Perm (rangeI 0 hs.length)) (hw : showsB hs m td = true) : showsB (ms.map fun x => hs.getD x.toNat 0) m (ms.map fun x => td.getD x.toNat 0) = true := by
  have ho := ito_range h
  have ho2 : (ms.map Int.toNat).Perm (List.range td.length) := by rw [hl]; exact ho
  rw [pick_is, pick_is]
  unfold showsB at hw ⊢
  rw [Moore.less_pick hl ho, Moore.all_pick hl ho, heaps_ok (heaps_perm (Moore.pick_perm ho2) hh)]
  rw [heaps_ok hh, decide_eq_true hl] at hw
  have e1 : (Moore.pick td (ms.map Int.toNat)).length = (Moore.pick hs (ms.map Int.toNat)).length := by simp [Moore.pick]
  have e2 : outI m (Moore.pick td (ms.map Int.toNat)) = outI m td := by unfold outI; exact Moore.out_perm (Moore.pick_perm ho2)
  rw [decide_eq_true e1, e2]
  exact hw
def wrongL (hs td : List Int) : List Int := if (decide ((Moore.took hs td).getD 0 0 > 0) && decide ((Moore.took hs td).sum = (Moore.took hs td).getD 0 0)) = true then hs.take 1 ++ td.drop 1 else td ++ [0]
theorem wrong_no {hs td : List Int} {m : Nat} {fr : List Nat} (T : Moore.Told m hs td fr) (hne : 1 ≤ hs.length) (j : Int) : showsB hs j (wrongL hs td) = false := by
  unfold wrongL
  split
  · rename_i e
    rw [Bool.and_eq_true, decide_eq_true_eq, decide_eq_true_eq] at e
    have hl := T.len
    have hle := T.le
    cases hs with
    | nil => simp at hne
    | cons a hs =>
      cases td with
      | nil => simp at hl
      | cons t td =>
        have hf := Moore.first_only hl hle e.2
        subst hf
        exact shows_self _ _
  · refine shows_len ?_
    rw [List.length_append, T.len]
    simp
theorem wrong_len {hs td : List Int} (hl : td.length = hs.length) : (wrongL hs td).length ≤ 2 + hs.length := by
  unfold wrongL
  split
  · rw [List.length_append, List.length_take, List.length_drop]; omega
  · rw [List.length_append, List.length_singleton]; omega
theorem rests_is (m : Nat) (hs : List Int) : (((((List.range 10).map fun k => (hs.map fun x => x / Moore.pw k % 2).sum % ((m : Int) + 1))).map fun x => !decide (x = 0)).any id) = !outI (m : Int) hs := by
  rw [outI_nat, ← Moore.rests_any, List.any_map]; rfl
theorem more_out (m : Nat) (hs : List Int) (x : Int) : outI (m : Int) (hs ++ List.replicate (m + 1) x) = outI (m : Int) hs := by
  rw [outI_nat, outI_nat]; exact Moore.out_more m hs x
theorem perm_out {m : Int} {l l' : List Int} (h : l.Perm l') : outI m l = outI m l' := by unfold outI; exact Moore.out_perm h
theorem rep_flat (n : Nat) (x : P) : (List.replicate n [x]).flatten = List.replicate n x := by
  induction n with
  | zero => rfl
  | succ n ih => rw [List.replicate_succ, List.flatten_cons, ih, List.replicate_succ]; rfl
theorem more_is (hs : List Int) (m : Nat) (r : Int) : hs.map P.int ++ (List.replicate ((m : Int) + 1).toNat [P.int r]).flatten = (hs ++ List.replicate (m + 1) r).map P.int := by
  rw [rep_flat, List.map_append, List.map_replicate, show ((m : Int) + 1).toNat = m + 1 by omega]

theorem cut_one (ns : List Int) : cutP (ns.map P.int) none (some 1) = (ns.take 1).map P.int := by
  have := cut_take (ns.map P.int) 1
  rw [List.map_take]
  exact this
theorem cut_rest (ns : List Int) : cutP (ns.map P.int) (some 1) none = (ns.drop 1).map P.int := by
  rw [List.map_drop]
  unfold cutP
  rw [HT.sIx_none, show HT.sIx (ns.map P.int).length 0 (some 1) = min 1 (ns.map P.int).length from HT.sIx_nat _ _ 1]
  cases ns with
  | nil => rfl
  | cons x r =>
    rw [Nat.min_eq_left (by simp)]
    rw [List.take_of_length_le (by simp)]
theorem cut_part {xs : List P} (h : 1 ≤ xs.length) : ¬ (HT.sIx xs.length 0 (some 1) = 0 ∧ HT.sIx xs.length xs.length none = xs.length) := by
  rw [show HT.sIx xs.length 0 (some 1) = min 1 xs.length from HT.sIx_nat _ _ 1]
  omega
theorem wrong_is (hs td : List Int) : (if (decide ((Moore.took hs td).getD (0 : Int).toNat 0 > 0) && decide ((Moore.took hs td).sum = (Moore.took hs td).getD (0 : Int).toNat 0)) = true then P.tup (cutP (hs.map P.int) none (some 1) ++ cutP (td.map P.int) (some 1) none) else P.tup (td.map P.int ++ [P.int 0])) = P.tup ((wrongL hs td).map P.int) := by
  rw [cut_one, cut_rest]
  unfold wrongL
  have e : (0 : Int).toNat = 0 := rfl
  rw [e]
  split
  · rw [List.map_append]
  · rw [List.map_append]; rfl
theorem took_len {hs td : List Int} (h : td.length = hs.length) : (Moore.took hs td).length = hs.length := by
  unfold Moore.took
  rw [List.length_map, List.length_zip]; omega
theorem mod9_bd {hs : List Int} : ∀ x ∈ hs.map (fun x => x % 9), 0 ≤ x ∧ x ≤ 400 := by
  intro x hx
  obtain ⟨y, _, rfl⟩ := List.mem_map.mp hx
  omega

abbrev N__law_are_several_right : List Str := ["pot", "heaps", "many", "is_won", "more", "some", "told", "taken", "wrong", "order", "mine", "its", "one", "other", "lap", "heap", "value", "at"]
theorem sc__law_are_several_right : FnScope N__law_are_several_right ["pot"] (defScope s__law_are_several_right) := ⟨rfl, rfl, rfl, by decide +kernel, rfl, by decide +kernel, by decide +kernel⟩
set_option maxHeartbeats 4000000 in
theorem ok__law_are_several_right (G : GF K mg) (c__law_take : Cl P₀ w K mg base 1 "_law_take" S_law_take) (c__law_rests : Cl P₀ w K mg base 1 "_law_rests" S_law_rests) (c__law_some : Cl P₀ w K mg base 2 "_law_some" S_law_some) (c_several_win : Cl P₀ w K mg base 5 "several_win" S_several_win) (c_several_to : Cl P₀ w K mg base 5 "several_to" S_several_to) (c_shows_several_to : Cl P₀ w K mg base 5 "shows_several_to" S_shows_several_to) : ClG P₀ w K mg base 6 "_law_are_several_right" S_law_are_several_right := by
  refine pfnG G.d__law_are_several_right sc__law_are_several_right (fun _ _ _ _ _ _ us hl => match us, hl with | [_], _ => rfl) (fun qs c Q h => ?_) (fun f cdv A outer s H E hgd hr => ?_)
  · obtain ⟨n, k, o, rfl, ⟨hc, ho, hk⟩, hQ⟩ := h; rfl
  have hu := hr.units
  refine ⟨_, (pss_cons (ps_asg (pe_tup (pa_cons (pe_lc (own := [("lap", 14)]) rfl sc__law_are_several_right.nd (pi_range1 rfl G.b_range (pa_cons (pe_op op_add pe_int (pe_cl c__law_take ⟨rfl, rfl, rfl, rfl, rfl⟩ hr (by omega) rfl (pa_cons (pv 0) (pa_cons pe_int pa_nil)))) pa_nil)) (blkOk_by (N := N__law_are_several_right) (sc := defScope s__law_are_several_right) (by decide +kernel)) (fun _ _ _ _ _ => (pg_name (i := 14) sc__law_are_several_right.nd rfl (by first | exact Or.inl rfl | exact Or.inr rfl))) (fun _ _ _ _ _ => pts_nil) (fun _ _ _ _ _ => (pe_callTy call_int1 rfl G.b_int boot_int (pa_cons (pe_cl c__law_take ⟨rfl, rfl, rfl, rfl, rfl⟩ hr (by omega) rfl (pa_cons (pv 0) (pa_cons pe_int pa_nil))) pa_nil)))) (pa_cons (pe_op op_add pe_int (pe_cl c__law_take ⟨rfl, rfl, rfl, rfl, rfl⟩ hr (by omega) rfl (pa_cons (pv 0) (pa_cons pe_int pa_nil)))) pa_nil))) (pg_tup' (K := K) rfl rfl (pgs_cons (pg_name (i := 1) sc__law_are_several_right.nd rfl (Or.inr rfl)) (pgs_cons (pg_name (i := 2) sc__law_are_several_right.nd rfl (Or.inr rfl)) pgs_nil)))) (pss_cut (ps_if (pt_cmpR op_eq (pe_cl c__law_take ⟨rfl, rfl, rfl, rfl, rfl⟩ hr (by omega) rfl (pa_cons (pv 0) (pa_cons pe_int pa_nil))) pe_int (nomark _)) (pss_one (ps_set (i := 1) sc__law_are_several_right.nd rfl (Or.inr rfl) (pe_lc (own := [("heap", 15)]) rfl sc__law_are_several_right.nd (pi_list' (K := K) rfl (pv 1)) (blkOk_by (N := N__law_are_several_right) (sc := defScope s__law_are_several_right) (by decide +kernel)) (fun _ _ _ _ _ => (pg_name (i := 15) sc__law_are_several_right.nd rfl (by first | exact Or.inl rfl | exact Or.inr rfl))) (fun _ _ _ _ _ => pts_nil) (fun _ _ _ _ _ => (pe_op op_mod (pv 15) pe_int))))) pss_nil) (pss_cons (ps_set (i := 3) sc__law_are_several_right.nd rfl (Or.inl rfl) (pe_callB (cr_any' (K := K) rfl rfl) rfl G.b_any boot_any (pa_cons (pe_lc (own := [("one", 12)]) rfl sc__law_are_several_right.nd (pi_list' (K := K) rfl (pe_cl c__law_rests ⟨rfl, rfl, rfl, rfl, rfl⟩ hr (by omega) rfl (pa_cons (pv 1) (pa_cons (pv 2) pa_nil)))) (blkOk_by (N := N__law_are_several_right) (sc := defScope s__law_are_several_right) (by decide +kernel)) (fun _ _ _ _ _ => (pg_name (i := 12) sc__law_are_several_right.nd rfl (by first | exact Or.inl rfl | exact Or.inr rfl))) (fun _ _ _ _ _ => pts_nil) (fun _ _ _ _ _ => (pe_cmpR op_ne (pv 12) pe_int (nomark _)))) pa_nil))) (pss_cons (ps_set (i := 4) sc__law_are_several_right.nd rfl (Or.inl rfl) (pe_op op_cat (pv 1) (pe_op op_rep (pe_lst (pa_cons (pe_callTy call_int1 rfl G.b_int boot_int (pa_cons (pe_cl c__law_take ⟨rfl, rfl, rfl, rfl, rfl⟩ hr (by omega) rfl (pa_cons (pv 0) (pa_cons pe_int pa_nil))) pa_nil)) pa_nil)) (pe_op op_add (pv 2) pe_int)))) (pss_cons (ps_for PassesOwn.never rfl (pi_tup' (K := K) rfl (pe_tup (pa_cons (pv 1) (pa_cons (pe_cl c__law_some ⟨rfl, rfl, rfl, rfl, rfl⟩ hr (by omega) rfl (pa_cons (pv 0) (pa_cons (pv 1) (pa_cons (pe_callB (call_len_seq' (K := K) rfl) rfl G.b_len boot_len (pa_cons (pv 1) pa_nil)) pa_nil)))) (pa_cons (pv 4) pa_nil))))) (pg_name (i := 5) sc__law_are_several_right.nd rfl (Or.inl rfl)) (pss_one (ps_if (pt_cmpR op_ne (pe_cl c_several_win ⟨rfl, rfl, rfl, rfl, rfl⟩ hr (by omega) rfl (pa_cons (pe_callTy (call_tuple_of' (K := K) rfl) rfl G.b_tuple boot_tuple (pa_cons (pv 5) pa_nil)) (pa_cons (pv 2) pa_nil))) (pv 3) (nomark _)) (pss_one (ps_ret pe_bl)) pss_nil))) (pss_cons (ps_set (i := 6) sc__law_are_several_right.nd rfl (Or.inr rfl) (pe_cl c_several_to ⟨rfl, rfl, rfl, rfl, rfl⟩ hr (by omega) rfl (pa_cons (pe_callTy (call_tuple_of' (K := K) rfl) rfl G.b_tuple boot_tuple (pa_cons (pv 1) pa_nil)) (pa_cons (pv 2) pa_nil)))) (pss_cons (ps_if (pt_not (pt_val (pv 3))) (pss_one (ps_ret (pe_and (pe_cmpR op_isN (pv 6) pe_non (nomark _)) (pe_one (pe_cmpR op_isBl (pe_cl c_shows_several_to ⟨rfl, rfl, rfl, rfl, rfl⟩ hr (by omega) rfl (pa_cons (pe_callTy (call_tuple_of' (K := K) rfl) rfl G.b_tuple boot_tuple (pa_cons (pv 1) pa_nil)) (pa_cons (pv 2) (pa_cons pe_non pa_nil)))) pe_bl (nomark _)))))) pss_nil) (pss_cons (ps_setLc (i := 7) (own := [("one", 12), ("other", 13)]) rfl sc__law_are_several_right.nd rfl rfl (sw_true rfl rfl rfl (by decide +kernel)) (pi_zip2 (K := K) true false rfl rfl G.b_zip (pa_cons (pv 1) (pa_cons (pv 6) pa_nil))) (blkOk_by (N := N__law_are_several_right) (sc := defScope s__law_are_several_right) (by decide +kernel)) (fun _ _ _ _ _ => (pg_tup' (K := K) (n := 2) rfl rfl (pgs_cons (pg_name (i := 12) sc__law_are_several_right.nd rfl (by first | exact Or.inl rfl | exact Or.inr rfl)) (pgs_cons (pg_name (i := 13) sc__law_are_several_right.nd rfl (by first | exact Or.inl rfl | exact Or.inr rfl)) pgs_nil)))) (fun _ _ _ _ _ => pts_nil) (fun _ _ _ _ _ => (pe_op op_sub (pv 12) (pv 13)))) (pss_cons (ps_if (PW.pt (pw_or (pt_cmpR op_lt (pe_callB (cr_min' (K := K) rfl rfl) rfl G.b_min boot_min (pa_cons (pv 7) pa_nil)) pe_int (nomark _)) (pw_or1 (pt_not (pt_chain op_le op_le pe_int (pe_callB (call_len_seq' (K := K) rfl) rfl G.b_len boot_len (pa_cons (pe_lc (own := [("one", 12)]) rfl sc__law_are_several_right.nd (pi_list' (K := K) rfl (pv 7)) (blkOk_by (N := N__law_are_several_right) (sc := defScope s__law_are_several_right) (by decide +kernel)) (fun _ _ _ _ _ => (pg_name (i := 12) sc__law_are_several_right.nd rfl (by first | exact Or.inl rfl | exact Or.inr rfl))) (fun _ _ _ _ _ => (pts_one (pt_cmpR op_gt (pv 12) pe_int (nomark _)))) (fun _ _ _ _ _ => (pv 12))) pa_nil)) (pv 2)))))) (pss_one (ps_ret pe_bl)) pss_nil) (pss_cons (ps_if (pt_cmpR op_notBl (pe_cl c_several_win ⟨rfl, rfl, rfl, rfl, rfl⟩ hr (by omega) rfl (pa_cons (pv 6) (pa_cons (pv 2) pa_nil))) pe_bl (nomark _)) (pss_one (ps_ret pe_bl)) pss_nil) (pss_cons (ps_set (i := 8) sc__law_are_several_right.nd rfl (Or.inl rfl) (pe_ifExp (PW.pt (pw_and (pt_cmpR op_gt (pe_ix (ix_list' (K := K) rfl) (pv 7) pe_int (fun _ _ => rfl)) pe_int (nomark _)) (pw_and1 (pt_cmpR op_eq (pe_callB (cr_sum' (K := K) rfl rfl) rfl G.b_sum boot_sum (pa_cons (pv 7) pa_nil)) (pe_ix (ix_list' (K := K) rfl) (pv 7) pe_int (fun _ _ => rfl)) (nomark _))))) (pe_op (op_catT' (K := K) rfl) (pe_callTy (call_tuple_of' (K := K) rfl) rfl G.b_tuple boot_tuple (pa_cons (pe_slice (sl_list' (K := K) rfl) (pv 1) po_none (po_some pe_int)) pa_nil)) (pe_slice (sl_tup' (K := K) rfl) (pv 6) (po_some pe_int) po_none)) (pe_op (op_catT' (K := K) rfl) (pv 6) (pe_tup (pa_cons pe_int pa_nil))))) (pss_cons (ps_if (pt_cmpR op_ne (pe_callB (cr_repr (K := K) rfl hgd hu) rfl G.b_repr boot_repr (pa_cons (pe_lc (own := [("value", 16)]) rfl sc__law_are_several_right.nd (pi_tup' (K := K) rfl (pe_tup (pa_cons (pv 6) (pa_cons (pv 8) pa_nil)))) (blkOk_by (N := N__law_are_several_right) (sc := defScope s__law_are_several_right) (by decide +kernel)) (fun _ _ _ _ _ => (pg_name (i := 16) sc__law_are_several_right.nd rfl (by first | exact Or.inl rfl | exact Or.inr rfl))) (fun _ _ _ _ _ => pts_nil) (fun _ _ _ _ _ => (pe_cl c_shows_several_to ⟨rfl, rfl, rfl, rfl, rfl⟩ hr (by omega) rfl (pa_cons (pe_callTy (call_tuple_of' (K := K) rfl) rfl G.b_tuple boot_tuple (pa_cons (pv 1) pa_nil)) (pa_cons (pv 2) (pa_cons (pv 16) pa_nil)))))) pa_nil)) (pe_callB (cr_repr (K := K) rfl hgd hu) rfl G.b_repr boot_repr (pa_cons (pe_lst (pa_cons pe_bl (pa_cons pe_bl pa_nil))) pa_nil)) (nomark _)) (pss_one (ps_ret pe_bl)) pss_nil) (pss_cons (ps_set (i := 9) sc__law_are_several_right.nd rfl (Or.inl rfl) (pe_cl c__law_some ⟨rfl, rfl, rfl, rfl, rfl⟩ hr (by omega) rfl (pa_cons (pv 0) (pa_cons (pe_listRg rfl rfl G.b_list (prg_1 rfl G.b_range (pe_callB (call_len_seq' (K := K) rfl) rfl G.b_len boot_len (pa_cons (pv 1) pa_nil)))) (pa_cons (pe_callB (call_len_seq' (K := K) rfl) rfl G.b_len boot_len (pa_cons (pv 1) pa_nil)) pa_nil))))) (pss_cons (ps_par (i := 10) (j := 11) rfl sc__law_are_several_right.nd rfl rfl (by decide) rfl rfl (pa_cons (pe_callTy (call_tuple_of' (K := K) rfl) rfl G.b_tuple boot_tuple (pa_cons (pe_lc (own := [("at", 17)]) rfl sc__law_are_several_right.nd (pi_list' (K := K) rfl (pv 9)) (blkOk_by (N := N__law_are_several_right) (sc := defScope s__law_are_several_right) (by decide +kernel)) (fun _ _ _ _ _ => (pg_name (i := 17) sc__law_are_several_right.nd rfl (by first | exact Or.inl rfl | exact Or.inr rfl))) (fun _ _ _ _ _ => pts_nil) (fun _ _ _ _ _ => (pe_ix (ix_list' (K := K) rfl) (pv 1) (pv 17) (fun _ _ => rfl)))) pa_nil)) (pa_cons (pe_callTy (call_tuple_of' (K := K) rfl) rfl G.b_tuple boot_tuple (pa_cons (pe_lc (own := [("at", 17)]) rfl sc__law_are_several_right.nd (pi_list' (K := K) rfl (pv 9)) (blkOk_by (N := N__law_are_several_right) (sc := defScope s__law_are_several_right) (by decide +kernel)) (fun _ _ _ _ _ => (pg_name (i := 17) sc__law_are_several_right.nd rfl (by first | exact Or.inl rfl | exact Or.inr rfl))) (fun _ _ _ _ _ => pts_nil) (fun _ _ _ _ _ => (pe_ix (ix_tup' (K := K) rfl) (pv 6) (pv 17) (fun _ _ => rfl)))) pa_nil)) pa_nil)) rfl) (pss_one (ps_ret (pe_cmpR op_isBl (pe_cl c_shows_several_to ⟨rfl, rfl, rfl, rfl, rfl⟩ hr (by omega) rfl (pa_cons (pv 10) (pa_cons (pv 2) (pa_cons (pv 11) pa_nil)))) pe_bl (nomark _)))))))))))))))))), fun qs c Q hS hb => ?_⟩
  obtain ⟨n, k, o, rfl, ⟨hc, ho, hk⟩, hQ⟩ := hS
  -- statement 1
  refine sw_seq (sw_asg (ew_tup (aw_cons (ew_lcD n (k + 1) 6 401 (by decide) (gc_name (by decide)) (iw_rng1 (aw_cons (ew_opI (ew_int ⟨_, rfl, (ew_call (aw_cons (ew_var rfl (aw_cons (ew_int (aw_nil ⟨_, _, _, _, rfl, ⟨hc, ho, by omega⟩, ⟨by decide, by decide⟩, fun r1 o1 hr1 ho1 => ⟨_, rfl, (aw_nil ⟨_, rfl, ⟨by omega, by omega⟩, ⟨o1, rfl, ho1, by rw [rangeP_len]; omega, by rw [rangeP_len]; omega⟩⟩)⟩⟩))))))⟩)))) (fun p i o3 hi3 ho3 => gw_name ⟨rfl, (tw_yes ⟨rfl, rfl⟩), (ew_int1 (ew_call (aw_cons (ew_var rfl (aw_cons (ew_int (aw_nil ⟨_, _, _, _, rfl, ⟨set_get hc, ho3, by omega⟩, ⟨by decide, by decide⟩, fun rE oE hrE hoE => (.inl ⟨_, rfl, ⟨_, _, rfl, hrE, rfl, hoE⟩⟩)⟩)))))))⟩) (fun hs o4 hl4 hbd ho4 => (aw_cons (ew_opI (ew_int ⟨_, rfl, (ew_call (aw_cons (ew_var rfl (aw_cons (ew_int (aw_nil ⟨_, _, _, _, rfl, ⟨set_get hc, ho4, by omega⟩, ⟨by decide, by decide⟩, fun r5 o5 hr5 ho5 => ⟨_, rfl, (aw_nil ⟨(by show 2 ≤ 100000; decide), (gw_tup rfl (gws_cons (gw_name (gws_cons (gw_name (gws_nil ?_))))))⟩)⟩⟩))))))⟩))))))))
  -- statement 2
  refine sw_cut (fun ρ' c' => ∃ (hs : List Int) (mn : Nat) (o6 : Ob), c' = c.set n o6 ∧ ρ' = [some (.cell n), some (.lst (hs.map P.int)), some (.int (mn : Int)), none, none, none, none, none, none, none, none, none, none, none, none, none, none, none] ∧ IsPot (k + 10) o6 ∧ (1 ≤ hs.length ∧ hs.length ≤ 6) ∧ (∀ x ∈ hs, 0 ≤ x ∧ x ≤ 400) ∧ 1 ≤ mn ∧ mn ≤ 4) (sw_if (tw_test (ew_eqI (ew_call (aw_cons (ew_var rfl (aw_cons (ew_int (aw_nil ⟨_, _, _, _, rfl, ⟨set_get (set_get hc), ho5, by omega⟩, ⟨by decide, by decide⟩, fun r6 o6 hr6 ho6 => ⟨_, rfl, (ew_int ⟨_, rfl, ⟨_, rfl, ⟨fun hx4 => ?_, fun hx4 => ?_⟩⟩⟩)⟩⟩))))))))) ?_
  · skip
    -- statement 3
    refine sw_set (ew_lcM P.int hs (fun x => P.int (x % 9)) (gc_name (by decide)) (iw_list (ew_var rfl ⟨_, rfl, ⟨rfl, rfl⟩⟩)) (by omega) (fun x hx => gw_name ⟨rfl, (tw_yes ⟨rfl, rfl⟩), fun hf => (ew_opC (ew_var rfl ⟨_, rfl, (ew_int ⟨_, rfl, (by walk_at "pl"), ⟨rfl, rfl⟩⟩)⟩))⟩) ?_)
    obtain ⟨mn, hmn⟩ : ∃ mn : Nat, (mn : Int) = 1 + r5 := ⟨(1 + r5).toNat, by omega⟩
    exact ⟨hs.map (fun x => x % 9), mn, o6, by simp only [List.set_set], by rw [hmn, List.map_map]; rfl, ho6.mono (by omega), by rw [List.length_map]; exact hl4, mod9_bd, by omega, by omega⟩
  · skip
    refine sw_next ?_
    obtain ⟨mn, hmn⟩ : ∃ mn : Nat, (mn : Int) = 1 + r5 := ⟨(1 + r5).toNat, by omega⟩
    exact ⟨hs, mn, o6, by simp only [List.set_set], by rw [hmn]; rfl, ho6.mono (by omega), hl4, fun x hx => by have := hbd x hx; omega, by omega, by omega⟩
  intro ρ' c' hM
  obtain ⟨hs, mn, o7, rfl, rfl, ho7, hl, hbd, hm1, hm2⟩ := hM
  have hh : HsOk hs := ⟨by omega, hbd⟩
  have hlm : (hs.map P.int).length = hs.length := List.length_map ..
  -- statement 4
  refine sw_seq (sw_set (ew_any (ew_lcM P.int ((List.range 10).map fun k => (hs.map fun x => x / Moore.pw k % 2).sum % ((mn : Int) + 1)) (fun x => P.bl (!decide (x = 0))) (gc_name (by decide)) (iw_list (ew_call (aw_cons (ew_var rfl (aw_cons (ew_var rfl (aw_nil ⟨_, _, rfl, ⟨by omega, by omega, by omega⟩, ⟨_, rfl, ⟨rfl, rfl⟩⟩⟩))))))) (by rw [List.length_map, List.length_range]; decide) (fun x hx => gw_name ⟨rfl, (tw_yes ⟨rfl, rfl⟩), fun hf => (ew_neI (ew_var rfl ⟨_, rfl, (ew_int ⟨_, rfl, ⟨rfl, rfl⟩⟩)⟩))⟩) ⟨((((List.range 10).map fun k => (hs.map fun x => x / Moore.pw k % 2).sum % ((mn : Int) + 1))).map fun x => !decide (x = 0)), (LstOf.of (.lst _) (by rw [List.map_map]; rfl)), ?_⟩)))
  rw [rests_is]
  -- statement 5
  refine sw_seq (sw_set (ew_cat (ew_var rfl (ew_rep (ew_lst (aw_cons (ew_int1 (ew_call (aw_cons (ew_var rfl (aw_cons (ew_int (aw_nil ⟨_, _, _, _, rfl, ⟨set_get hc, ho7, by omega⟩, ⟨by decide, by decide⟩, fun r8 o8 hr8 ho8 => (.inl ⟨_, rfl, (aw_nil ⟨(by show 1 ≤ 100000; decide), (ew_opI (ew_var rfl ⟨_, rfl, (ew_int ⟨_, rfl, ⟨_, _, (.lst _), rfl, ⟨by omega, by omega, by show 1 * _ ≤ _; omega⟩, ⟨_, _, (.lst _), (.lst _), (by rw [rep_flat, List.length_map, List.length_replicate]; omega), ?_⟩⟩⟩)⟩))⟩)⟩)⟩)))))))))))))
  rw [more_is]
  -- statement 6
  refine sw_seq (sw_for (iw_tup (ew_tup (aw_cons (ew_var rfl (aw_cons (ew_call (aw_cons (ew_var rfl (aw_cons (ew_var rfl (aw_cons (ew_len (ew_var rfl ⟨_, (.l (.lst _)), (aw_nil ⟨n, .lst (hs.map P.int), hs, _, _, (by rw [List.length_map]), fun c' => .l (.lst _), ⟨set_get (set_get hc), ho8, by omega⟩, by omega, fun ms o9 hms ho9 => (aw_cons (ew_var rfl (aw_nil ⟨(by show 3 ≤ 100000; decide), ⟨_, rfl, ⟨(fun i ρ c' => c' = c.set n o9 ∧ ∃ y5 : Option P, ρ = [some (.cell n), some (.lst (hs.map P.int)), some (.int (mn : Int)), some (.bl (!outI (mn : Int) hs)), some (.lst ((hs ++ List.replicate (mn + 1) r8).map P.int)), y5, none, none, none, none, none, none, none, none, none, none, none, none]), ⟨by simp only [List.set_set], none, rfl⟩, fun i p ρ' c' hi hP => ?_, fun ρ' c' hP => ?_⟩⟩⟩)))⟩)⟩))))))))))))))
  · obtain ⟨rfl, y5, rfl⟩ := hP
    obtain ⟨ss, rfl, hss, hout⟩ : ∃ ss : List Int, p = .lst (ss.map P.int) ∧ HsOk ss ∧ outI (mn : Int) ss = outI (mn : Int) hs := by
      have hi2 : i < 3 := (List.getElem?_eq_some_iff.mp hi).1
      have e : i = 0 ∨ i = 1 ∨ i = 2 := by omega
      rcases e with rfl | rfl | rfl
      · injection hi with hi; exact ⟨_, hi.symm, hh, rfl⟩
      · injection hi with hi; exact ⟨_, hi.symm, heaps_perm hms hh, perm_out hms⟩
      · injection hi with hi
        refine ⟨_, hi.symm, ⟨by rw [List.length_append, List.length_replicate]; omega, fun x hx => ?_⟩, more_out mn hs r8⟩
        rcases List.mem_append.mp hx with z | z
        · exact hbd x z
        · rw [(List.mem_replicate.mp z).2]; omega
    refine gw_name ?_
    -- statement 7
    refine sw_if (tw_test (ew_neB (ew_call (aw_cons (ew_tupleOf (ew_var rfl ⟨_, (.l (.lst _)), (aw_cons (ew_var rfl (aw_nil ⟨_, _, rfl, ⟨hss, by omega, by omega⟩, ⟨_, rfl, (ew_var rfl ⟨_, rfl, ⟨_, rfl, ⟨fun hx9 => ?_, fun hx9 => ?_⟩⟩⟩)⟩⟩)))⟩))))))
    · exfalso
      rw [hout] at hx9
      simp at hx9
    · try simp only [decide_eq_true_eq, decide_eq_false_iff_not, Bool.or_eq_true, Bool.and_eq_true, Bool.or_eq_false_iff, Bool.and_eq_false_iff, Bool.not_eq_true', Bool.not_eq_false', Bool.not_true, Bool.not_false, Int.not_lt, Int.not_le] at hx9
      refine sw_next ?_
      exact ⟨rfl, _, rfl⟩
  · obtain ⟨rfl, y5, rfl⟩ := hP
    -- statement 9
    refine sw_seq (sw_set (ew_call (aw_cons (ew_tupleOf (ew_var rfl ⟨_, (.l (.lst _)), (aw_cons (ew_var rfl (aw_nil ⟨_, _, rfl, ⟨hh, by omega, by omega⟩, fun td fr hT => ?_⟩)))⟩)))))
    have hT : Moore.Told mn hs td fr := by rw [Int.toNat_natCast] at hT; exact hT
    have htl := hT.len
    have htk := took_len htl
    -- statement 10
    refine sw_seq (sw_if (tw_not (tw_B (ew_var rfl ⟨_, rfl, ⟨fun hx12 => ?_, fun hx12 => ?_⟩⟩))))
    · have hot : outI (mn : Int) hs = true := by simpa using hx12
      rw [if_pos hot]
      -- statement 11
      refine sw_ret (ew_and' (ew_isP (ew_var rfl ⟨rfl, rfl⟩)) (fun hbx13 => (ew_isB (ew_call (aw_cons (ew_tupleOf (ew_var rfl ⟨_, (.l (.lst _)), (aw_cons (ew_var rfl (aw_cons (ew_non (aw_nil ⟨_, _, _, rfl, ⟨hh, by omega, by omega⟩, .inl ⟨rfl, ⟨_, rfl, (ew_bl ⟨_, rfl, ⟨rfl, rfl⟩⟩)⟩⟩⟩)))))⟩)))))) ?_)
      refine rt_is (hQ _) (congrArg P.bl ?_)
      rw [hot]; rfl
    · have hot : outI (mn : Int) hs = false := by simpa using hx12
      rw [if_neg (by rw [hot]; decide)]
      have hsm := told_some hT hot
      have htn := Moore.took_nn htl hT.le
      have htp := Moore.took_pos htl
      refine sw_next ?_
      -- statement 12
      refine sw_seq (sw_set (ew_lcM pairI (hs.zip td) (fun z => P.int (z.1 - z.2)) (gc_tup (gcs_cons (gc_name (by decide)) (gcs_cons (gc_name (by decide)) gcs_nil))) (iw_zip2 (aw_cons (ew_var rfl (aw_cons (ew_var rfl (aw_nil ⟨_, _, _, _, rfl, (.lst _), (.tup _), ⟨(zip_ints _ _), rfl⟩⟩)))))) (by rw [List.length_zip]; omega) (fun x hx => gw_tup rfl (gws_cons (gw_name (gws_cons (gw_name (gws_nil ⟨rfl, (tw_yes ⟨rfl, rfl⟩), fun hf => (ew_opI (ew_var rfl ⟨_, rfl, (ew_var rfl ⟨_, rfl, ⟨rfl, rfl⟩⟩)⟩))⟩)))))) ?_))
      rw [show ((hs.zip td).map fun z => P.int (z.1 - z.2)) = (Moore.took hs td).map P.int by unfold Moore.took; rw [List.map_map]; rfl]
      -- statement 13
      refine sw_seq (sw_if (tw_of (x := false) (tw_or (tw_test (ew_opB (ew_minL (ew_var rfl ⟨_, (.lst _), (by omega), fun mm hm1 hm2 => ⟨_, rfl, (ew_int ⟨_, rfl, ⟨_, rfl, ⟨fun hbx16 => ⟨(by first | (exfalso; have h9 := htn mm hm1; simp only [decide_eq_true_eq] at *; omega) | (rw [List.length_map, htp, decide_eq_true (show (1 : Int) ≤ (Moore.lessN hs td : Int) by omega), decide_eq_true (show (Moore.lessN hs td : Int) ≤ (mn : Int) by omega)]; rfl)), rfl⟩, fun hbx16 => (tw_not (tw_test (ew_chain' (ew_int ⟨_, rfl, (ew_len (ew_lcT P.int (Moore.took hs td) (fun x => decide (x > 0)) P.int (gc_name (by decide)) (iw_list (ew_var rfl ⟨_, rfl, ⟨rfl, rfl⟩⟩)) (by omega) (fun x hx => gw_name ⟨rfl, (tw_test (ew_opB (ew_var rfl ⟨_, rfl, (ew_int ⟨_, rfl, ⟨_, rfl, ⟨rfl, rfl⟩⟩⟩)⟩))), fun hf => (ew_var rfl ⟨rfl, rfl⟩)⟩) ⟨_, (.l (.lst _)), ⟨_, _, rfl, fun hcx17 => (ew_var rfl ⟨rfl, rfl⟩), ⟨_, rfl, ⟨(by first | (exfalso; have h9 := htn mm hm1; simp only [decide_eq_true_eq] at *; omega) | (rw [List.length_map, htp, decide_eq_true (show (1 : Int) ≤ (Moore.lessN hs td : Int) by omega), decide_eq_true (show (Moore.lessN hs td : Int) ≤ (mn : Int) by omega)]; rfl)), rfl⟩⟩⟩⟩))⟩))))⟩⟩⟩)⟩⟩))))) ⟨fun hx15 => ?_, fun hx15 => ?_⟩))
      · cases hx15
      · try simp only [decide_eq_true_eq, decide_eq_false_iff_not, Bool.or_eq_true, Bool.and_eq_true, Bool.or_eq_false_iff, Bool.and_eq_false_iff, Bool.not_eq_true', Bool.not_eq_false', Bool.not_true, Bool.not_false, Int.not_lt, Int.not_le] at hx15
        refine sw_next ?_
        -- statement 15
        refine sw_seq (sw_if (tw_test (ew_notB (ew_call (aw_cons (ew_var rfl (aw_cons (ew_var rfl (aw_nil ⟨_, _, rfl, ⟨told_heaps hh hT, by omega, by omega⟩, ⟨_, rfl, (ew_bl ⟨_, rfl, ⟨_, rfl, ⟨fun hx18 => ?_, fun hx18 => ?_⟩⟩⟩)⟩⟩)))))))))
        · exfalso
          simp [told_out hT] at hx18
        · try simp only [decide_eq_true_eq, decide_eq_false_iff_not, Bool.or_eq_true, Bool.and_eq_true, Bool.or_eq_false_iff, Bool.and_eq_false_iff, Bool.not_eq_true', Bool.not_eq_false', Bool.not_true, Bool.not_false, Int.not_lt, Int.not_le] at hx18
          refine sw_next ?_
          -- statement 17
          refine sw_seq (sw_set (ew_if' (tw_and' (tw_test (ew_opB (ew_ixL (ew_var rfl (ew_int ⟨_, _, _, (.lst _), rfl, (atI_ints (by decide) (by omega)), ⟨_, rfl, (ew_int ⟨_, rfl, ⟨_, rfl, ⟨rfl, rfl⟩⟩⟩)⟩⟩))))) (fun hbx21 => (tw_test (ew_eqI (ew_sum (ew_var rfl ⟨_, (.lst _), ⟨_, rfl, (ew_ixL (ew_var rfl (ew_int ⟨_, _, _, (.lst _), rfl, (atI_ints (by decide) (by omega)), ⟨_, rfl, ⟨_, rfl, ⟨rfl, rfl⟩⟩⟩⟩)))⟩⟩))))) ⟨rfl, rfl⟩) (fun hix20 => (ew_catT (ew_tupleOf (ew_slL (ew_var rfl (ow_none (ow_some (ew_int ⟨_, rfl, ⟨_, (.lst _), ⟨_, (.l (.lst _)), (ew_slT (ew_var rfl (ow_some (ew_int ⟨_, rfl, (ow_none ⟨_, rfl, (cut_part (by rw [List.length_map]; omega)), ⟨_, _, rfl, rfl, ⟨by rw [cut_one]; intro z; have h9 := congrArg List.length z; rw [List.length_map, List.length_take, List.length_nil] at h9; omega, by rw [cut_one, cut_rest, List.length_map, List.length_map, List.length_take, List.length_drop]; omega⟩, ⟨rfl, rfl⟩⟩⟩)⟩))))⟩⟩⟩)))))))) (fun hix20 => (ew_catT (ew_var rfl (ew_tup (aw_cons (ew_int (aw_nil ⟨(by show 1 ≤ 100000; decide), ⟨_, _, rfl, rfl, ⟨by intro z; have h9 := congrArg List.length z; rw [List.length_map, List.length_nil] at h9; omega, by rw [List.length_map]; show _ + 1 ≤ _; omega⟩, ⟨rfl, rfl⟩⟩⟩))))))) ?_))
          rw [wrong_is]
          have hwl := wrong_len htl
          have hw1 := told_shows hh hT hot
          have hw2 := wrong_no hT hl.1 (mn : Int)
          -- statement 18
          refine sw_seq (sw_if (tw_test (ew_ne (ew_repr2 (ew_lcM (fun vs : List Int => P.tup (vs.map P.int)) [td, wrongL hs td] (fun vs => P.bl (showsB hs (mn : Int) vs)) (gc_name (by decide)) (iw_tup (ew_tup (aw_cons (ew_var rfl (aw_cons (ew_var rfl (aw_nil ⟨(by show 2 ≤ 100000; decide), ⟨_, rfl, ⟨rfl, rfl⟩⟩⟩))))))) (by show 2 ≤ 100000; decide) (fun x hx => have hxl : x.length ≤ 90000 := (by simp only [List.mem_cons, List.not_mem_nil, or_false] at hx; rcases hx with rfl | rfl <;> omega); gw_name ⟨rfl, (tw_yes ⟨rfl, rfl⟩), fun hf => (ew_call (aw_cons (ew_tupleOf (ew_var rfl ⟨_, (.l (.lst _)), (aw_cons (ew_var rfl (aw_cons (ew_var rfl (aw_nil ⟨_, _, _, rfl, ⟨hh, by omega, by omega⟩, .inr ⟨x, rfl, hxl, ⟨rfl, rfl⟩⟩⟩)))))⟩))))⟩) ⟨rfl, (ew_repr2 (ew_lst (aw_cons (ew_bl (aw_cons (ew_bl (aw_nil ⟨(by show 2 ≤ 100000; decide), ⟨rfl, ⟨_, _, rfl, rfl, rfl, ⟨_, rfl, ⟨fun hx22 => ?_, fun hx22 => ?_⟩⟩⟩⟩⟩)))))))⟩)))))
          · exfalso
            rw [hw1, hw2] at hx22
            simp at hx22
          · try simp only [decide_eq_true_eq, decide_eq_false_iff_not, Bool.or_eq_true, Bool.and_eq_true, Bool.or_eq_false_iff, Bool.and_eq_false_iff, Bool.not_eq_true', Bool.not_eq_false', Bool.not_true, Bool.not_false, Int.not_lt, Int.not_le] at hx22
            refine sw_next ?_
            -- statement 20
            refine sw_seq (sw_set (ew_call (aw_cons (ew_var rfl (aw_cons (ew_listRg1 (ew_len (ew_var rfl ⟨_, (.l (.lst _)), ⟨_, rfl, (RgOk.of_le (by decide) (by omega) (by omega) (by omega)), (aw_cons (ew_len (ew_var rfl ⟨_, (.l (.lst _)), (aw_nil ⟨n, .lst (rangeP 0 (((hs.map P.int).length : Int)).toNat), rangeI 0 hs.length, _, _, (by simp [rangeI]), fun c' => SeqOf.of (.l (.lst _)) (by rw [rangeP_ints, List.length_map, Int.toNat_natCast]), ⟨set_get hc, ho9, by omega⟩, by unfold rangeI; rw [List.length_map, List.length_range]; omega, fun mo oA hmo hoA => ?_⟩)⟩)))⟩⟩))))))))
            have hml : mo.length = hs.length := by rw [hmo.length_eq]; unfold rangeI; rw [List.length_map, List.length_range]
            -- statement 21
            refine sw_seq (sw_par (aw_cons (ew_tupleOf (ew_lcM P.int mo (fun x => P.int (hs.getD x.toNat 0)) (gc_name (by decide)) (iw_list (ew_var rfl ⟨_, rfl, ⟨rfl, rfl⟩⟩)) (by omega) (fun x hx => have hx := mem_rangeI.mp (hmo.mem_iff.mp hx); gw_name ⟨rfl, (tw_yes ⟨rfl, rfl⟩), fun hf => (ew_ixL (ew_var rfl (ew_var rfl ⟨_, _, _, (.lst _), rfl, (atI_ints (by omega) (by omega)), ⟨rfl, rfl⟩⟩)))⟩) ⟨_, (.l (.lst _)), (aw_cons (ew_tupleOf (ew_lcM P.int mo (fun x => P.int (td.getD x.toNat 0)) (gc_name (by decide)) (iw_list (ew_var rfl ⟨_, rfl, ⟨rfl, rfl⟩⟩)) (by omega) (fun x hx => have hx := mem_rangeI.mp (hmo.mem_iff.mp hx); gw_name ⟨rfl, (tw_yes ⟨rfl, rfl⟩), fun hf => (ew_ixT (ew_var rfl (ew_var rfl ⟨_, _, _, rfl, rfl, (atI_ints (by omega) (by omega)), ⟨rfl, rfl⟩⟩)))⟩) ⟨_, (.l (.lst _)), (aw_nil ⟨_, _, rfl, ?_⟩)⟩)))⟩))))
            have em : ∀ l : List Int, (mo.map fun x => P.int (l.getD x.toNat 0)) = (mo.map fun x => l.getD x.toNat 0).map P.int := fun l => by rw [List.map_map]; rfl
            rw [em, em]
            -- statement 22
            refine sw_ret (ew_isB (ew_call (aw_cons (ew_var rfl (aw_cons (ew_var rfl (aw_cons (ew_var rfl (aw_nil ⟨_, _, _, rfl, ⟨pick_ok hmo hh, by omega, by omega⟩, .inr ⟨_, rfl, by rw [List.length_map]; omega, ⟨_, rfl, (ew_bl ⟨_, rfl, ?_⟩)⟩⟩⟩)))))))))
            rw [List.set_set]
            refine rt_is (hQ _) (congrArg P.bl (decide_eq_true ?_))
            exact pick_shows htl (told_heaps hh hT) hmo hw1
end K22

set_option Elab.async false
set_option linter.all false
set_option maxRecDepth 100000
local macro_rules | `(tactic| walk_at "pl") => `(tactic| first | assumption | rfl | omega | exact PL.get_app | exact PL.get_appS | exact ⟨by omega, by omega⟩ | exact Or.inl ⟨by omega, by omega⟩ | exact Or.inr ⟨by omega, by omega⟩ | (show (0 : Int) < _; omega) | decide | (simp only [List.length_cons, List.length_nil]; omega) | (refine ⟨?_, ?_⟩ <;> first | assumption | omega))
local macro_rules | `(tactic| walk_at "pl end") => `(tactic| first | exact .inl hQ | exact rt_is hQ (by simp))
local macro_rules | `(tactic| walk_at "pl dead") => `(tactic| first | omega | (intros; simp_all; done) | (intros; simp_all; omega))
namespace K22
open PySem PySem.Spec PyProof.Rows L2 Evl PL
variable {K : PySem.W.Frag} {P₀ : Program} {w : World} {mg : Str → Option Value} {base : Heap}
abbrev N__law_right : List Str := ["pot"]
theorem sc__law_right : FnScope N__law_right ["pot"] (defScope s__law_right) := ⟨rfl, rfl, rfl, by decide +kernel, rfl, by decide +kernel, by decide +kernel⟩
set_option maxHeartbeats 4000000 in
theorem ok__law_right (G : GF K mg) (c__law_are_euclids_right : Cl P₀ w K mg base 5 "_law_are_euclids_right" S_law_are_euclids_right) (c__law_are_golden_right : Cl P₀ w K mg base 5 "_law_are_golden_right" S_law_are_golden_right) (c__law_are_several_right : ClG P₀ w K mg base 6 "_law_are_several_right" S_law_are_several_right) (c__law_are_doubles_right : Cl P₀ w K mg base 5 "_law_are_doubles_right" S_law_are_doubles_right) : ClG P₀ w K mg base 7 "_law_right" S_law_right := by
  refine pfnG G.d__law_right sc__law_right (fun _ _ _ _ _ _ us hl => match us, hl with | [_], _ => rfl) (fun qs c Q h => ?_) (fun f cdv A outer s H E hgd hr => ?_)
  · obtain ⟨n, o, rfl, ⟨hc, ho⟩, hQ⟩ := h; rfl
  have hu := hr.units
  refine ⟨_, (pss_cons (ps_if (PW.pt (pw_or (pt_not (pt_val (pe_cl c__law_are_golden_right ⟨rfl, rfl, rfl, rfl, rfl⟩ hr (by omega) rfl (pa_cons (pv 0) pa_nil)))) (pw_or1 (pt_not (pt_val (pe_cl c__law_are_euclids_right ⟨rfl, rfl, rfl, rfl, rfl⟩ hr (by omega) rfl (pa_cons (pv 0) pa_nil))))))) (pss_one (ps_ret pe_bl)) pss_nil) (pss_one (ps_ret (pe_and (pe_cl c__law_are_doubles_right ⟨rfl, rfl, rfl, rfl, rfl⟩ hr (by omega) rfl (pa_cons (pv 0) pa_nil)) (pe_one (pe_clG c__law_are_several_right ⟨rfl, rfl, rfl, rfl, rfl⟩ hgd hr (by omega) rfl (pa_cons (pv 0) pa_nil))))))), fun qs c Q hS hb => ?_⟩
  obtain ⟨n, o, rfl, ⟨hc, ho⟩, hQ⟩ := hS
  -- statement 1
  refine sw_seq (sw_if (tw_or (tw_not (tw_B (ew_call (aw_cons (ew_var rfl (aw_nil ⟨_, _, _, rfl, ⟨hc, ho, by omega⟩, fun o1 ho1 => ⟨_, rfl, ⟨fun hb => absurd hb (by decide), fun _ => (tw_not (tw_B (ew_call (aw_cons (ew_var rfl (aw_nil ⟨_, _, _, rfl, ⟨set_get hc, ho1, by omega⟩, fun o2 ho2 => ⟨_, rfl, ⟨fun hx1 => ?_, fun hx1 => ?_⟩⟩⟩))))))⟩⟩⟩))))))))
  · cases hx1
  · skip
    refine sw_next ?_
    -- statement 3
    refine sw_ret (ew_andV (ew_call (aw_cons (ew_var rfl (aw_nil ⟨_, _, _, rfl, ⟨set_get (set_get hc), ho2, by omega⟩, fun o3 ho3 => ⟨_, rfl, fun hbx2 => (ew_call (aw_cons (ew_var rfl (aw_nil ⟨_, _, _, rfl, ⟨set_get (set_get (set_get hc)), ho3, by omega⟩, fun o4 => ?_⟩)))), fun hbx2 => ?_⟩⟩)))))
    · rw [List.set_set, List.set_set, List.set_set]
      exact .inl (hQ _)
    · exact absurd ‹true = false› (by decide)

abbrev N_law : List Str := ["script", "place"]
theorem sc_law : FnScope N_law ["script"] (defScope s_law) := ⟨rfl, rfl, rfl, by decide +kernel, rfl, by decide +kernel, by decide +kernel⟩
set_option maxHeartbeats 4000000 in
theorem ok_law {f₀ : Addr} {fd₀ : FuncData} (Fl : FunD K "law" "law" (defArgs s_law) (defBody s_law) (defScope s_law) [] [] f₀ fd₀) (G : GF K mg) (c__law_places : Cl P₀ w K mg base 1 "_law_places" S_law_places) (c__law_right : ClG P₀ w K mg base 7 "_law_right" S_law_right) (c__law_pot : Cl P₀ w K mg base 1 "_law_pot" S_law_pot) : FnG P₀ w K mg base CX0 8 f₀ fd₀ ["script"] (SpOf K S_law) := by
  refine pfnFG Fl sc_law (fun qs c Q h => ?_) (fun f cdv A outer s H E hgd hr => ?_)
  · obtain ⟨ns, rfl, hlen, hQ⟩ := h; rfl
  have hu := hr.units
  refine ⟨_, (pss_cons (ps_for PassesOwn.never rfl (pi_list' (K := K) rfl (pe_cl c__law_places ⟨rfl, rfl, rfl, rfl, rfl⟩ hr (by omega) rfl (pa_cons (pv 0) (pa_cons pe_int pa_nil)))) (pg_name (i := 1) sc_law.nd rfl (Or.inl rfl)) (pss_one (ps_if (pt_not (pt_val (pe_clG c__law_right ⟨rfl, rfl, rfl, rfl, rfl⟩ hgd hr (by omega) rfl (pa_cons (pe_cl c__law_pot ⟨rfl, rfl, rfl, rfl, rfl⟩ hr (by omega) rfl (pa_cons (pv 0) (pa_cons (pv 1) pa_nil))) pa_nil)))) (pss_one (ps_ret pe_bl)) pss_nil))) (pss_one (ps_ret pe_bl))), fun qs c Q hS hb => ?_⟩
  obtain ⟨ns, rfl, hlen, hQ⟩ := hS
  -- statement 1
  refine sw_seq (sw_for (iw_list (ew_call (aw_cons (ew_var rfl (aw_cons (ew_int (aw_nil ⟨_, rfl, hlen, fun n h1 h2 => ⟨_, rfl, ⟨(fun i ρ c' => c = c' ∧ ∃ y, ρ = [some (.klst (ns.map P.int)), y]), ⟨rfl, none, rfl⟩, fun i p ρ' c' hi hP => ?_, fun ρ' c' hP => ?_⟩⟩⟩))))))))
  · obtain ⟨rfl, y, rfl⟩ := hP
    obtain ⟨rfl, hlt⟩ := rangeP_get hi
    refine gw_name ?_
    -- statement 2
    refine sw_if (tw_forget fun hbb => (tw_not (tw_B (ew_call (aw_cons (ew_call (aw_cons (ew_var rfl (aw_cons (ew_var rfl (aw_nil ⟨_, _, rfl, ⟨by omega, by omega⟩, fun o ho => (aw_nil ⟨_, _, rfl, ⟨get_app, ho⟩, fun o2 => ⟨_, rfl, (.inr ⟨_, [_], set_app, Nat.le_refl _, hbb, rfl, ⟨fun hx2 => ?_, fun hx2 => ?_⟩⟩)⟩⟩)⟩)))))))))))
    · simp at hx2
    · try simp only [decide_eq_true_eq, decide_eq_false_iff_not, Bool.or_eq_true, Bool.and_eq_true, Bool.or_eq_false_iff, Bool.and_eq_false_iff, Bool.not_eq_true', Bool.not_eq_false', Bool.not_true, Bool.not_false, Int.not_lt, Int.not_le] at hx2
      refine sw_next ?_
      exact ⟨rfl, _, rfl⟩
  · obtain ⟨rfl, y, rfl⟩ := hP
    -- statement 4
    refine sw_ret (ew_bl ?_)
    first | exact .inl hQ | exact rt_is hQ (by simp) | exact rt_is hQ (by first | rfl | (congr 1 <;> simp; done))
end K22

set_option Elab.async false
set_option linter.all false
set_option maxRecDepth 100000
namespace K22
open PySem PySem.Spec PyProof.Rows L2 Evl PL
variable {K : PySem.W.Frag} {P₀ : Program} {w : World} {mg : Str → Option Value} {base : Heap}
theorem all_law {f₀ : Addr} {fd₀ : FuncData} (Fl : FunD K "law" "law" (defArgs s_law) (defBody s_law) (defScope s_law) [] [] f₀ fd₀) (G : GF K mg) : FnG P₀ w K mg base CX0 8 f₀ fd₀ ["script"] (SpOf K S_law) := by
  have c_is_integer := ok_is_integer (P₀ := P₀) (w := w) (base := base) G 
  have c_is_between := ok_is_between (P₀ := P₀) (w := w) (base := base) G c_is_integer
  have c_are_heaps := ok_are_heaps (P₀ := P₀) (w := w) (base := base) G c_is_between
  have c_is_golden := ok_is_golden (P₀ := P₀) (w := w) (base := base) G 
  have c_is_euclid_won := ok_is_euclid_won (P₀ := P₀) (w := w) (base := base) G c_is_golden
  have c_root_of := ok_root_of (P₀ := P₀) (w := w) (base := base) G 
  have c_pair_by := ok_pair_by (P₀ := P₀) (w := w) (base := base) G c_root_of
  have c_wythoff := ok_wythoff (P₀ := P₀) (w := w) (base := base) G c_is_between c_pair_by
  have c_check_two := ok_check_two (P₀ := P₀) (w := w) (base := base) G c_is_between
  have c_mate_of := ok_mate_of (P₀ := P₀) (w := w) (base := base) G c_root_of c_pair_by
  have c_is_pair := ok_is_pair (P₀ := P₀) (w := w) (base := base) G c_pair_by
  have c_two_win := ok_two_win (P₀ := P₀) (w := w) (base := base) G c_check_two c_is_pair
  have c_two_good := ok_two_good (P₀ := P₀) (w := w) (base := base) G c_check_two c_is_pair c_mate_of c_pair_by
  have c_euclid_wins := ok_euclid_wins (P₀ := P₀) (w := w) (base := base) G c_check_two c_is_euclid_won
  have c_euclid_good := ok_euclid_good (P₀ := P₀) (w := w) (base := base) G c_check_two c_is_euclid_won
  have c_fibonacci := ok_fibonacci (P₀ := P₀) (w := w) (base := base) G 
  have c_parts_of := ok_parts_of (P₀ := P₀) (w := w) (base := base) G c_fibonacci
  have c_parted := ok_parted (P₀ := P₀) (w := w) (base := base) G c_is_between c_parts_of
  have c_check_double := ok_check_double (P₀ := P₀) (w := w) (base := base) G c_is_between
  have c_double_wins := ok_double_wins (P₀ := P₀) (w := w) (base := base) G c_check_double c_parts_of
  have c_double_take := ok_double_take (P₀ := P₀) (w := w) (base := base) G c_check_double c_parts_of
  have c_check_several := ok_check_several (P₀ := P₀) (w := w) (base := base) G c_are_heaps c_is_between
  have c_comes_out := ok_comes_out (P₀ := P₀) (w := w) (base := base) G 
  have c_several_win := ok_several_win (P₀ := P₀) (w := w) (base := base) G c_check_several c_comes_out
  have c_high_place := ok_high_place (P₀ := P₀) (w := w) (base := base) G 
  have c_shows_several_to := ok_shows_several_to (P₀ := P₀) (w := w) (base := base) G c_check_several c_comes_out c_are_heaps
  have c_to_come_out := ok_to_come_out (P₀ := P₀) (w := w) (base := base) G c_high_place
  have c_several_to := ok_several_to (P₀ := P₀) (w := w) (base := base) G c_check_several c_comes_out c_to_come_out
  have c__law_pot := ok__law_pot (P₀ := P₀) (w := w) (base := base) G 
  have c__law_take := ok__law_take (P₀ := P₀) (w := w) (base := base) G 
  have c__law_places := ok__law_places (P₀ := P₀) (w := w) (base := base) G 
  have c__law_great := ok__law_great (P₀ := P₀) (w := w) (base := base) G c__law_take
  have c__law_some := ok__law_some (P₀ := P₀) (w := w) (base := base) G c__law_take
  have c__law_rests := ok__law_rests (P₀ := P₀) (w := w) (base := base) G 
  have c__law_are_golden_right := ok__law_are_golden_right (P₀ := P₀) (w := w) (base := base) G c__law_great c_wythoff c_two_good c_two_win c__law_take
  have c__law_are_euclids_right := ok__law_are_euclids_right (P₀ := P₀) (w := w) (base := base) G c__law_take c__law_great c_euclid_good c_euclid_wins
  have c__law_are_doubles_right := ok__law_are_doubles_right (P₀ := P₀) (w := w) (base := base) G c__law_great c_parted c__law_take c_double_take c_double_wins
  have c__law_are_several_right := ok__law_are_several_right (P₀ := P₀) (w := w) (base := base) G c__law_take c__law_rests c__law_some c_several_win c_several_to c_shows_several_to
  have c__law_right := ok__law_right (P₀ := P₀) (w := w) (base := base) G c__law_are_euclids_right c__law_are_golden_right c__law_are_several_right c__law_are_doubles_right
  exact ok_law Fl G c__law_places c__law_right c__law_pot
end K22
open PySem PySem.W PySem.Calls PyProof.Rows
set_option maxHeartbeats 0 in
theorem PySem.Challenge.cw_whoeverbegins_k22_whole_pairs_grow_from_holds : PySem.Challenge.rw_whoeverbegins_k22_whole_pairs_grow_from.Holds := by
  w_on; o_law
  refine HandSHeadRun.head_any (r := OpenLaw.row PySem.Challenge.rw_whoeverbegins_k22_whole_pairs_grow_from) (q := view (OpenLaw.row PySem.Challenge.rw_whoeverbegins_k22_whole_pairs_grow_from).prog [53]) (H := K22.hk) (ob := K22.ob) (M := 3000) (loose := K22.loose) (d := HandSHeadRun.topDef (OpenLaw.row PySem.Challenge.rw_whoeverbegins_k22_whole_pairs_grow_from).prog 53) (kwd := []) K22.ob_eq
    (by kernel_rfl) (fun s => by kernel_rfl) K22.run (by kernel_rfl) (by kernel_rfl) (by kernel_rfl) (by rfl) (by first | assumption | decide +kernel) (by decide +kernel) ⟨rfl, rfl, rfl, rfl, rfl, by decide +kernel⟩ ?hw ?hc
  case hw => w_witness2
  case hc =>
    refine PL.walk_ofG (l := PySem.Challenge.rw_whoeverbegins_k22_whole_pairs_grow_from) (n := 63) (k := 8) (x := "script") (CX := L2.CX0) rfl (by decide) (by kernel_rfl) ⟨rfl, by decide, by decide⟩ ?F (fun _ _ _ _ z => z)
    intro w mg fa h Y G hmg0
    obtain ⟨K, KX, c⟩ := Y
    have hmg : mg ("law" : PySem.Str) = some (.ref fa) := by
      have e : (HandSHeadRun.topDef (OpenLaw.row PySem.Challenge.rw_whoeverbegins_k22_whole_pairs_grow_from).prog 53).name = ("law" : PySem.Str) := by kernel_rfl
      rw [← e]
      exact hmg0
    have GG := K22.mkG KX G c
    obtain ⟨f, fd, F, hm⟩ := GG.d_law.ex
    have ef : f = fa := Value.ref.inj (Option.some.inj (hm.symm.trans hmg))
    subst ef
    have b := L2.FunD.bindsA (ps := ["script"]) F fun _ _ _ _ _ _ us hl => match us, hl with | [_], _ => rfl
    exact ⟨K, fd, PL.SpOf K PL.S_law, KX, fun s v => b s [v] rfl, fun H a ns hl _ hS => PL.spec_law hl hS, fun base _ _ => K22.all_law F GG⟩

